import Derived.Test.YtdjfpjmijhjmpaaGreatDoorZd
import Derived.Deep.QuietTactic
import Derived.BigQuiet
import Derived.Test.YtdjfpjmijhjmpaaGreatDoorProg
import Derived.Lib.IndexMore
import Derived.Deep.RegionHeld3
import Derived.WalkMore
import Derived.ScopeJumps
import Derived.StillTailTactics
set_option linter.unusedVariables false
set_option linter.unusedSimpArgs false
set_option maxHeartbeats 2000000
set_option maxRecDepth 100000
noncomputable section
namespace Go.Proofs.YtdjfpjmijhjmpaaGreatDoor
open Go.Proofs.Tryz
open Go.RowKit Yk
theorem j6 {s:Int} (h:s.natAbs<BIG):chkI s=(ofI s,0):=by unfold chkI;rw[if_pos h]
variable {x y:Nat}
theorem lS (Y:0<y) (J:x<BIG) (N H:Bool):(sgn N x / sgn H y).natAbs<BIG:=by
 cases N
 ·rw[show sgn false x=(x:Int) from rfl,(dZ x H y).1,cz];exact zaS (zaN _ _) J
 ·rw[show sgn true x= -(x:Int) from rfl,(cH Y H).1,cz];split
  ·exact zaS (zaN _ _) J
  ·rename_i h;have h2:2<=y:=by
    rcases zah 1 y with h3|h3
    ·exact h3
    ·have:y=1:=by omega
     subst this;rw[zch] at h;exact absurd rfl h
   have h3:x / y<=x / 2:=Nat.div_le_div_left h2 (by decide);have h4:x≠0:=by intro e;subst e;simp at h
   omega
theorem lT (J:0<y) (Y:y<BIG) (N H:Bool):(sgn N x%sgn H y).natAbs<BIG:=by
 have hm:=zar x J;cases N
 ·rw[show sgn false x=(x:Int) from rfl,(dZ x H y).2,zbZ];omega
 ·rw[show sgn true x= -(x:Int) from rfl,(cH J H).2,zbZ];split<;>omega
theorem pA (n:Nat):(ae 10000 n).length<=(ae 10000 (n+1)).length:=by
 obtain⟨k,H⟩: ∃k,(ae 10000 (n+1)).length=k:=⟨_,rfl⟩;rw[H];have:=(ai (B:=10000) (by decide) (n+1) k).1 (by omega);exact(ai (by decide) n k).2 (by omega)
def qZ (s r:Int) (w:World) (e:Ending) (w':World):Prop:=e= .returned (.tuple #[.string (ofI s), .string (ofI r), .int .i64 0])/\Below w.heap.size w w'
theorem KD (nb:Bool) (x y:Nat) (hy0:0<y)  (hxB:x<BIG) (hyB:y<BIG) (a b:zdG) (w:World) (hg:Glob w)
 (hB:Hid (∀w,Calls prog 157 #[.string a, .string b] w λe w'=> ∃v1 v2,e= .returned (.tuple #[.agg #[.bool false,v1], .agg #[.bool nb,v2], .bool true])/\Rd am w' v1 (ae 10000 x)/\Rd am w' v2 (ae 10000 y)/\From w.heap.size v1/\From w.heap.size v2/\Below w.heap.size w w')):
 Calls prog 301 #[.string a, .string b] w (qZ (sgn false x / sgn nb y) (sgn false x%sgn nb y) w):=by
 have hq:chkI (sgn nb (x / y))=(ofI (sgn false x / sgn nb y),0):=by
  rw[<-j6 (lS hy0 hxB _ _)];congr 1;exact(by rw[show sgn false x=(x:Int) from rfl,(dZ x nb y).1])
 have hr:chkI (sgn false (x%y))=(ofI (sgn false x%sgn nb y),0):=by
  rw[<-j6 (lT hy0 hyB _ _)];congr 1;rw[show sgn false x=(x:Int) from rfl,(dZ x nb y).2];rfl
 generalize sgn false x / sgn nb y=sq at*
 generalize sgn false x%sgn nb y=sr at*
 have Hq:=zdB hq;have Hr:=zdB hr;have hla:=bg hxB;have hlb:=bg hyB;have hlq:(ae 10000 (x / y)).length<=51:=fm (by have:=zaN x y;omega);have hlr:(ae 10000 (x%y)).length<=50:=bg (by have:=zar x hy0;omega);have hn2:0<(ae 10000 y).length:=by
  rcases zbK (ae 10000 y).length with h|h
  ·have:=(aZ (B:=10000) (by decide)).1 (zau h);omega
  ·exact h
 have Hla:=zdB hla;have Hlb:=zdB hlb;have Hlq:=zdB hlq;have Hlr:=zdB hlr;have Hg:=zdB hg;have Hy0:=zdB hy0;clear hq hr hla hlb hlq hlr hg hxB hyB hy0;have hmx:prog.follows .mixedOrders=true:=by kernel_rfl
 obtain⟨n1,e1⟩: ∃n,(ae 10000 x).length=n:=⟨_,rfl⟩;obtain⟨n2,e2⟩: ∃n,(ae 10000 y).length=n:=⟨_,rfl⟩;rw[e2] at hn2;have c1:((n2:Int)==0)=false:=by rw[zdw];omega
 have E1:=zdB e1;have E2:=zdB e2;clear e1 e2;go_enter func301,ntmps301;go_wp2_with fail
 (with_reducible refine(hB.out _).mono ?_);rintro e w1 ⟨v1,v2,rfl,hr1,hr2,hf1,hf2,hb1⟩
 obtain⟨a1,k1,rfl,_⟩:=hr1.open';obtain⟨a2,k2,rfl,_⟩:=hr2.open';rw[E1.out] at hr1;rw[E2.out] at hr2;simp only[E1.out,E2.out];have H1:=zdB hr1;have H2:=zdB hr2;have HB:=zdB hb1;have hs1:=hb1.size;clear hr1 hr2 hf1 hf2 hb1;have hbl: ∀o1 o2,Below w1.heap.size w1 ((w1.alloc o1).alloc o2):=λo1 o2=>((zdC _ _).alloc (za0 _) _).alloc (by simp) _;have Hbl:=zdB hbl;clear hbl;go_wp2_with fail;obtain⟨r1,r2⟩:=atU w1 #[.bool false, .slice a1 n1 k1] #[.bool nb, .slice a2 n2 k2] 205;have rb:=Hbl.out (.cells #[.bool false, .slice a1 n1 k1] 205) (.cells #[.bool nb, .slice a2 n2 k2] 205);generalize ((w1.alloc (.cells #[.bool false, .slice a1 n1 k1] 205)).alloc (.cells #[.bool nb, .slice a2 n2 k2] 205))=W0 at*
 refine(iW x y Hy0.out _ _ _ (H1.out.below rb) (H2.out.below rb) (by have:=Hla.out;omega) (by have:=Hlb.out;omega) (GX (H1.out.below rb))).mono ?_;rintro e W2 ⟨v3,v4,rfl,hr3,hr4,hf3,hf4,hb2⟩;have R1:=zdB (r1.below hb2 r1.lt);have R2:=zdB (r2.below hb2 r2.lt);have s2:=hb2.size;have s1:=rb.size;have RB:=zdB (rb.trans (hb2.mono s1));clear r1 r2 rb hb2 hf3 hf4;obtain⟨a4,k4,rfl,_⟩:=hr4.open';obtain⟨n4,e4⟩: ∃n,(ae 10000 (x%y)).length=n:=⟨_,rfl⟩;rw[e4] at hr4;simp only[e4];clear e4;obtain⟨a3,k3,rfl,_⟩:=hr3.open';have HR3:=zdB hr3;have HR4:=zdB hr4;have HGx:=zdB ((Hg.out.below HB.out).below RB.out);have HBx:=zdB (HB.out.trans (RB.out.mono hs1));clear hr3 hr4;obtain⟨p1,p2,_,_,_⟩:=bN R1.out;obtain⟨q1,q2,_,_,_⟩:=bN R2.out;go_wp2_with fail;refine(ep _ _ _ _ HR3.out HGx.out (by have:=Hlq.out;omega)).mono ?_;rw[Hq.out];rintro e W6 ⟨rfl,hb6⟩;have HR4':=zdB (HR4.out.below hb6);have HG6:=zdB (HGx.out.below hb6);have HB6:=zdB (HBx.out.trans (hb6.mono HBx.out.size));clear hb6;go_wp2_with fail;refine(ep _ _ _ _ HR4'.out HG6.out (by have:=Hlr.out;omega)).mono ?_;rw[Hr.out];rintro e W7 ⟨rfl,hb7⟩;have HB7:=zdB (HB6.out.trans (hb7.mono HB6.out.size));clear hb7;go_wp2
 go_ret3
 exact⟨rfl,HB7.out⟩
theorem G2 (nb:Bool) (x y:Nat) (hy0:0<y) (h0:x%y=0) (hxB:x<BIG) (hyB:y<BIG) (a b:zdG) (w:World) (hg:Glob w)
 (hB:Hid (∀w,Calls prog 157 #[.string a, .string b] w λe w'=> ∃v1 v2,e= .returned (.tuple #[.agg #[.bool true,v1], .agg #[.bool nb,v2], .bool true])/\Rd am w' v1 (ae 10000 x)/\Rd am w' v2 (ae 10000 y)/\From w.heap.size v1/\From w.heap.size v2/\Below w.heap.size w w')):
 Calls prog 301 #[.string a, .string b] w (qZ (sgn true x / sgn nb y) (sgn true x%sgn nb y) w):=by
 have hq:chkI (sgn (!nb) (x / y))=(ofI (sgn true x / sgn nb y),0):=by
  rw[<-j6 (lS hy0 hxB _ _)];congr 1;exact(by rw[show sgn true x= -(x:Int) from rfl,(cH hy0 nb).1,if_pos h0])
 have hr:chkI (sgn false (x%y))=(ofI (sgn true x%sgn nb y),0):=by
  rw[<-j6 (lT hy0 hyB _ _)];congr 1;rw[show sgn true x= -(x:Int) from rfl,(cH hy0 nb).2,if_pos h0,h0];rfl
 generalize sgn true x / sgn nb y=sq at*
 generalize sgn true x%sgn nb y=sr at*
 have Hq:=zdB hq;have Hr:=zdB hr;have hla:=bg hxB;have hlb:=bg hyB;have hlq:(ae 10000 (x / y)).length<=51:=fm (by have:=zaN x y;omega);have hlr:(ae 10000 (x%y)).length<=50:=bg (by have:=zar x hy0;omega);have hn2:0<(ae 10000 y).length:=by
  rcases zbK (ae 10000 y).length with h|h
  ·have:=(aZ (B:=10000) (by decide)).1 (zau h);omega
  ·exact h
 have Hla:=zdB hla;have Hlb:=zdB hlb;have Hlq:=zdB hlq;have Hlr:=zdB hlr;have Hg:=zdB hg;have Hy0:=zdB hy0;have H0:=zdB h0;clear h0;clear hq hr hla hlb hlq hlr hg hxB hyB hy0;have hmx:prog.follows .mixedOrders=true:=by kernel_rfl
 obtain⟨n1,e1⟩: ∃n,(ae 10000 x).length=n:=⟨_,rfl⟩;obtain⟨n2,e2⟩: ∃n,(ae 10000 y).length=n:=⟨_,rfl⟩;rw[e2] at hn2;have c1:((n2:Int)==0)=false:=by rw[zdw];omega
 have E1:=zdB e1;have E2:=zdB e2;clear e1 e2;go_enter func301,ntmps301;go_wp2_with fail
 (with_reducible refine(hB.out _).mono ?_);rintro e w1 ⟨v1,v2,rfl,hr1,hr2,hf1,hf2,hb1⟩
 obtain⟨a1,k1,rfl,_⟩:=hr1.open';obtain⟨a2,k2,rfl,_⟩:=hr2.open';rw[E1.out] at hr1;rw[E2.out] at hr2;simp only[E1.out,E2.out];have H1:=zdB hr1;have H2:=zdB hr2;have HB:=zdB hb1;have hs1:=hb1.size;clear hr1 hr2 hf1 hf2 hb1;have hbl: ∀o1 o2,Below w1.heap.size w1 ((w1.alloc o1).alloc o2):=λo1 o2=>((zdC _ _).alloc (za0 _) _).alloc (by simp) _;have Hbl:=zdB hbl;clear hbl;go_wp2_with fail;obtain⟨r1,r2⟩:=atU w1 #[.bool true, .slice a1 n1 k1] #[.bool nb, .slice a2 n2 k2] 205;have rb:=Hbl.out (.cells #[.bool true, .slice a1 n1 k1] 205) (.cells #[.bool nb, .slice a2 n2 k2] 205);generalize ((w1.alloc (.cells #[.bool true, .slice a1 n1 k1] 205)).alloc (.cells #[.bool nb, .slice a2 n2 k2] 205))=W0 at*
 refine(iW x y Hy0.out _ _ _ (H1.out.below rb) (H2.out.below rb) (by have:=Hla.out;omega) (by have:=Hlb.out;omega) (GX (H1.out.below rb))).mono ?_;rintro e W2 ⟨v3,v4,rfl,hr3,hr4,hf3,hf4,hb2⟩;have R1:=zdB (r1.below hb2 r1.lt);have R2:=zdB (r2.below hb2 r2.lt);have s2:=hb2.size;have s1:=rb.size;have RB:=zdB (rb.trans (hb2.mono s1));clear r1 r2 rb hb2 hf3 hf4;obtain⟨a4,k4,rfl,_⟩:=hr4.open';obtain⟨n4,e4⟩: ∃n,(ae 10000 (x%y)).length=n:=⟨_,rfl⟩;rw[e4] at hr4;simp only[e4];obtain rfl:n4=0:=by rw[<-e4,H0.out,aF];rfl
 clear e4;obtain⟨a3,k3,rfl,_⟩:=hr3.open';have HR3:=zdB hr3;have HR4:=zdB hr4;have HGx:=zdB ((Hg.out.below HB.out).below RB.out);have HBx:=zdB (HB.out.trans (RB.out.mono hs1));clear hr3 hr4;obtain⟨p1,p2,_,_,_⟩:=bN R1.out;obtain⟨q1,q2,_,_,_⟩:=bN R2.out;go_wp2_with fail;refine(ep _ _ _ _ HR3.out HGx.out (by have:=Hlq.out;omega)).mono ?_;rw[Hq.out];rintro e W6 ⟨rfl,hb6⟩;have HR4':=zdB (HR4.out.below hb6);have HG6:=zdB (HGx.out.below hb6);have HB6:=zdB (HBx.out.trans (hb6.mono HBx.out.size));clear hb6;go_wp2_with fail;refine(ep _ _ _ _ HR4'.out HG6.out (by have:=Hlr.out;omega)).mono ?_;rw[Hr.out];rintro e W7 ⟨rfl,hb7⟩;have HB7:=zdB (HB6.out.trans (hb7.mono HB6.out.size));clear hb7;go_wp2
 go_ret3
 exact⟨rfl,HB7.out⟩
theorem G3 (nb:Bool) (x y:Nat) (hy0:0<y) (h0:x%y≠0) (hxB:x<BIG) (hyB:y<BIG) (a b:zdG) (w:World) (hg:Glob w)
 (hB:Hid (∀w,Calls prog 157 #[.string a, .string b] w λe w'=> ∃v1 v2,e= .returned (.tuple #[.agg #[.bool true,v1], .agg #[.bool nb,v2], .bool true])/\Rd am w' v1 (ae 10000 x)/\Rd am w' v2 (ae 10000 y)/\From w.heap.size v1/\From w.heap.size v2/\Below w.heap.size w w')):
 Calls prog 301 #[.string a, .string b] w (qZ (sgn true x / sgn nb y) (sgn true x%sgn nb y) w):=by
 have hq:chkI (sgn (!nb) (x / y+1))=(ofI (sgn true x / sgn nb y),0):=by
  rw[<-j6 (lS hy0 hxB _ _)];congr 1;exact(by rw[show sgn true x= -(x:Int) from rfl,(cH hy0 nb).1,if_neg h0])
 have hr:chkI (sgn false (y - x%y))=(ofI (sgn true x%sgn nb y),0):=by
  rw[<-j6 (lT hy0 hyB _ _)];congr 1;rw[show sgn true x= -(x:Int) from rfl,(cH hy0 nb).2,if_neg h0];rfl
 generalize sgn true x / sgn nb y=sq at*
 generalize sgn true x%sgn nb y=sr at*
 have Hq:=zdB hq;have Hr:=zdB hr;have hla:=bg hxB;have hlb:=bg hyB;have hlq:(ae 10000 (x / y+1)).length<=51:=fm (by have:=zaN x y;omega);have hlr2:(ae 10000 (x%y)).length<=50:=bg (by have:=zar x hy0;omega);have Hlr2:=zdB hlr2;clear hlr2;have hlr:(ae 10000 (y - x%y)).length<=50:=bg (by have:=zar x hy0;omega);have hn2:0<(ae 10000 y).length:=by
  rcases zbK (ae 10000 y).length with h|h
  ·have:=(aZ (B:=10000) (by decide)).1 (zau h);omega
  ·exact h
 have Hla:=zdB hla;have Hlb:=zdB hlb;have Hlq:=zdB hlq;have Hlr:=zdB hlr;have Hg:=zdB hg;have Hy0:=zdB hy0;have H0:=zdB h0;clear h0;clear hq hr hla hlb hlq hlr hg hxB hyB hy0;have hmx:prog.follows .mixedOrders=true:=by kernel_rfl
 obtain⟨n1,e1⟩: ∃n,(ae 10000 x).length=n:=⟨_,rfl⟩;obtain⟨n2,e2⟩: ∃n,(ae 10000 y).length=n:=⟨_,rfl⟩;rw[e2] at hn2;have c1:((n2:Int)==0)=false:=by rw[zdw];omega
 have E1:=zdB e1;have E2:=zdB e2;clear e1 e2;go_enter func301,ntmps301;go_wp2_with fail
 (with_reducible refine(hB.out _).mono ?_);rintro e w1 ⟨v1,v2,rfl,hr1,hr2,hf1,hf2,hb1⟩
 obtain⟨a1,k1,rfl,_⟩:=hr1.open';obtain⟨a2,k2,rfl,_⟩:=hr2.open';rw[E1.out] at hr1;rw[E2.out] at hr2;simp only[E1.out,E2.out];have H1:=zdB hr1;have H2:=zdB hr2;have HB:=zdB hb1;have hs1:=hb1.size;clear hr1 hr2 hf1 hf2 hb1;have hbl: ∀o1 o2,Below w1.heap.size w1 ((w1.alloc o1).alloc o2):=λo1 o2=>((zdC _ _).alloc (za0 _) _).alloc (by simp) _;have Hbl:=zdB hbl;clear hbl;go_wp2_with fail;obtain⟨r1,r2⟩:=atU w1 #[.bool true, .slice a1 n1 k1] #[.bool nb, .slice a2 n2 k2] 205;have rb:=Hbl.out (.cells #[.bool true, .slice a1 n1 k1] 205) (.cells #[.bool nb, .slice a2 n2 k2] 205);generalize ((w1.alloc (.cells #[.bool true, .slice a1 n1 k1] 205)).alloc (.cells #[.bool nb, .slice a2 n2 k2] 205))=W0 at*
 refine(iW x y Hy0.out _ _ _ (H1.out.below rb) (H2.out.below rb) (by have:=Hla.out;omega) (by have:=Hlb.out;omega) (GX (H1.out.below rb))).mono ?_;rintro e W2 ⟨v3,v4,rfl,hr3,hr4,hf3,hf4,hb2⟩;have R1:=zdB (r1.below hb2 r1.lt);have R2:=zdB (r2.below hb2 r2.lt);have s2:=hb2.size;have s1:=rb.size;have RB:=zdB (rb.trans (hb2.mono s1));clear r1 r2 rb hb2 hf3 hf4;obtain⟨a4,k4,rfl,_⟩:=hr4.open';obtain⟨n4,e4⟩: ∃n,(ae 10000 (x%y)).length=n:=⟨_,rfl⟩;rw[e4] at hr4;simp only[e4];have c4:(0:Int)<(n4:Int):=by
  rcases zbK n4 with h|h
  ·rw[h] at e4;have:=(aZ (B:=10000) (by decide)).1 (zau e4);exact absurd this H0.out
  ·omega
 have E4:=zdB e4;clear e4;obtain⟨a3,k3,rfl,_⟩:=hr3.open';have HR3':=zdB hr3;have HR4':=zdB hr4;have HGx':=zdB ((Hg.out.below HB.out).below RB.out);have HBx':=zdB (HB.out.trans (RB.out.mono hs1));clear hr3 hr4;obtain⟨p1,p2,_,_,_⟩:=bN R1.out;obtain⟨q1,q2,_,_,_⟩:=bN R2.out;go_wp2
 go_region_held3 (λw'=>(w'.cell? ⟨w1.heap.size,0,none⟩=some (.bool true))/\(w'.cell? ⟨w1.heap.size+1,0,none⟩=some (.bool nb)/\w'.cell? ⟨w1.heap.size+1,1,none⟩=some (.slice a2 n2 k2))) (go_keep)
  ((first
    |(go_at_call 354;refine(KA _).mono ?_
      rintro e W3 ⟨v5,rfl,hr5,hf5,hb5⟩;have S1:=zdB (Blk.below (w:=W2.drew) R1.out hb5 R1.out.lt);have S2:=zdB (Blk.below (w:=W2.drew) R2.out hb5 R2.out.lt);obtain⟨u1,u2,_,_,_⟩:=bN S1.out;obtain⟨z1,z2,_,_,_⟩:=bN S2.out;have HR5:=zdB hr5;have HB5:=zdB hb5
      clear hr5 hf5 hb5)
    |(go_at_call 233;refine(iV (x / y) 1 _ _ _ (HR3'.out.below ((zdC _ W2).drew.trans HB5.out)) HR5.out (by have:=Hlq.out;have:=pA (x / y);omega) (by rw[gW (B:=10000) (d:=1) (by decide) (by decide) (by decide)];decide)).mono ?_
      rintro e W4 ⟨v6,rfl,hr6,hf6,hb6⟩;have T1:=zdB (Blk.below S1.out hb6 S1.out.lt);have T2:=zdB (Blk.below S2.out hb6 S2.out.lt);obtain⟨u1,u2,_,_,_⟩:=bN T1.out;obtain⟨z1,z2,_,_,_⟩:=bN T2.out;obtain⟨a6,k6,rfl,_⟩:=hr6.open';have HR6:=zdB hr6;have HB6:=zdB (HB5.out.trans (hb6.mono HB5.out.size))
      clear hr6 hf6 hb6)
    |(go_at_call 234;refine(ll y (x%y) (zbs (zar x Hy0.out)) _ _ _ (H2.out.below ((RB.out.drew).trans (HB6.out.mono RB.out.size))) (HR4'.out.below ((zdC _ W2).drew.trans HB6.out)) (by have:=Hlb.out;omega) (by have:=Hlr2.out;omega)).mono ?_
      rintro e W5 ⟨v7,rfl,hr7,hf7,hb7⟩;have U1:=zdB (Blk.below T1.out hb7 T1.out.lt);have U2:=zdB (Blk.below T2.out hb7 T2.out.lt);obtain⟨u1,u2,_,_,_⟩:=bN U1.out;obtain⟨z1,z2,_,_,_⟩:=bN U2.out;obtain⟨a7,k7,rfl,_⟩:=hr7.open';have HR7:=zdB hr7;have HR6':=zdB (HR6.out.below hb7);have HB7:=zdB (HB6.out.trans (hb7.mono HB6.out.size))
      clear hr7 hf7 hb7)))
 go_wp2_with fail;have HR3:=HR6';have HR4:=HR7;have HGx:=zdB ((HGx'.out.below (zdC _ W2).drew).below HB7.out);have HBx:=zdB (HBx'.out.drew.trans (HB7.out.mono HBx'.out.size));refine(ep _ _ _ _ HR3.out HGx.out (by have:=Hlq.out;omega)).mono ?_;rw[Hq.out];rintro e W6 ⟨rfl,hb6⟩;have HR4':=zdB (HR4.out.below hb6);have HG6:=zdB (HGx.out.below hb6);have HB6:=zdB (HBx.out.trans (hb6.mono HBx.out.size));clear hb6;go_wp2_with fail;refine(ep _ _ _ _ HR4'.out HG6.out (by have:=Hlr.out;omega)).mono ?_;rw[Hr.out];rintro e W7 ⟨rfl,hb7⟩;have HB7:=zdB (HB6.out.trans (hb7.mono HB6.out.size));clear hb7;go_wp2
 go_ret3
 exact⟨rfl,HB7.out⟩
abbrev PA (r:ByteArray×ByteArray×Int):Value:= .tuple #[.string r.1, .string r.2.1, .int .i64 r.2.2]
variable {a b:zdG}
theorem G4 (h:(vS a&&vS b)=false\/nS b=0):dY a b=(ByteArray.empty,ByteArray.empty,30):=by
 unfold dY;rcases h with h|h
 ·rw[h];rfl
 ·simp[h]
theorem ot (H:vS a=true) (J:vS b=true) (h:nS b≠0):dY a b=(ofI (nS a / nS b),ofI (nS a%nS b),0):=by simp[dY,H,J,h]
theorem ip (a b:zdG) (w:World) (hg:Glob w) (hsa:a.size<=maxLen) (hsb:b.size<=maxLen):
 Calls prog 301 #[.string a, .string b] w λe w'=>e= .returned (PA (dY a b))/\Below w.heap.size w w':=by
 by_cases h:(vS a&&vS b)=true
 ·obtain⟨ha,hb⟩:=nP h;have hB:=zdB (λw=>jD a b ha hb w);have hna:=cD a;have hnb:=cD b;by_cases h0:nS b=0
  ·rw[G4 (.inr h0)];have hy:(nS b).natAbs=0:=by rw[h0];rfl
   rw[hy] at hB;generalize bf a.data.toList=na at*
   generalize bf b.data.toList=nb at*
   generalize (nS a).natAbs=x at*
   rw[aF] at hB;clear h ha hb hna hnb h0 hy hg hsa hsb;go_enter func301,ntmps301;go_wp2_with fail
   (with_reducible refine(hB.out _).mono ?_);rintro e w1 ⟨v1,v2,rfl,hr1,hr2,hf1,hf2,hb1⟩
   obtain⟨a1,k1,rfl,_⟩:=hr1.open';obtain⟨a2,k2,rfl,_⟩:=hr2.open';have HB:=zdB hb1;clear hr1 hr2 hf1 hf2 hb1;go_wp2
   go_ret3
   refine⟨rfl, ?_⟩;have:=HB.out.size;exact(HB.out.alloc (by omega) _).alloc (by simp;omega) _
  ·rw[ot ha hb h0];have hy0:0<(nS b).natAbs:=by omega
   have hxB:=br ha;have hyB:=br hb;have key:Calls prog 301 #[.string a, .string b] w (qZ (nS a / nS b) (nS a%nS b) w):=by
    rw[hna,hnb];cases hn:bf a.data.toList
    ·exact KD _ _ _ hy0 hxB hyB a b w hg (by rw[hn] at hB;exact hB)
    ·by_cases hr:(nS a).natAbs%(nS b).natAbs=0
     ·exact G2 _ _ _ hy0 hr hxB hyB a b w hg (by rw[hn] at hB;exact hB)
     ·exact G3 _ _ _ hy0 hr hxB hyB a b w hg (by rw[hn] at hB;exact hB)
   exact key
 ·rw[G4 (.inl (zbc _▸h))];have hB:=zdB (λw=>lQ a b (zbc _▸h) w hsa hsb);clear h hsa hsb hg;go_enter func301,ntmps301;go_wp2_with fail
  (with_reducible refine(hB.out _).mono ?_);rintro e w1 ⟨rfl,hb1⟩
  have HB:=zdB hb1;clear hb1;go_wp2
  go_ret3
  refine⟨rfl, ?_⟩;have:=HB.out.size;exact(HB.out.alloc (by omega) _).alloc (by simp;omega) _
variable {w:World} {v:Value} {l m:zdH}
theorem NP (h:Rd am w v l) (k:Rd am w v m):l=m:=by
 rcases h with ⟨rfl,rfl⟩|⟨b,off,cap,rfl,h1,h2,h3,h4⟩
 ·rcases k with ⟨_,rfl⟩|⟨b,off,cap,e,_⟩
  ·rfl
  ·cases e
 ·rcases k with ⟨e,_⟩|⟨b',N,J,e,k1,k2,k3,k4⟩
  ·cases e
  ·injection e with H e2 e3
   injection H with H;injection H with e4 e5
   subst e4;subst e5;refine zbt e2 λi i1 i2=> ?_;have q1:=h4 i _ (zaa i1);have Y:=k4 i _ (zaa i2);rw[q1] at Y;have q3:((l[i]:Nat):Int)=(m[i]:Nat):=by simpa [am] using Y
   omega
def G5 (wr:World) (v:Value):Nat:=open Classical in if h: ∃R,Rd am wr v (ae 10000 R) then h.choose else 0
variable {wr:World} {R:Nat}
theorem yH (h:Rd am wr v (ae 10000 R)):G5 wr v=R:=by
 have H: ∃R,Rd am wr v (ae 10000 R):=⟨R,h⟩;unfold G5;rw[dif_pos H];exact nI (by decide) (NP H.choose_spec h)
def QE (g:Nat) (w:World) (H J:Value) (wr:World):Prop:=
 ∃(x y:Nat) (N:Option Addr) (Y:Nat) (a:Option Addr) (c:Nat),H= .slice N (ae 10000 x).length Y/\J= .slice a (ae 10000 y).length c/\Rd am wr H (ae 10000 x)/\Rd am wr J (ae 10000 y)/\Below w.heap.size w wr/\Nat.gcd x y=g/\x<BIG/\y<BIG
theorem NQ (H:x<BIG) (J:y<BIG):Nat.gcd x y<BIG:=by
 by_cases h:x=0
 ·subst h;simpa using J
 ·exact zaS (Nat.gcd_le_left y (by omega)) H
theorem ahv (H:vS a=true) (J:vS b=true):cM a b=(ofI (Nat.gcd (nS a).natAbs (nS b).natAbs),0):=by simp[cM,H,J,Int.gcd]
theorem AM (a b:zdG) (w:World) (hg:Glob w) (hsa:a.size<=maxLen) (hsb:b.size<=maxLen):
 Calls prog 146 #[.string a, .string b] w λe w'=>e= .returned (.tuple #[.string (cM a b).1, .int .i64 (cM a b).2])/\Below w.heap.size w w':=by
 by_cases h:(vS a&&vS b)=true
 ·obtain⟨ha,hb⟩:=nP h;rw[ahv ha hb];have hB:=zdB (λw=>jD a b ha hb w);have hxB:=br ha;have hyB:=br hb;generalize bf a.data.toList=na at*
  generalize bf b.data.toList=nb at*
  generalize (nS a).natAbs=x0 at*
  generalize (nS b).natAbs=y0 at*
  obtain⟨g,hgg⟩: ∃g,Nat.gcd x0 y0=g:=⟨_,rfl⟩;have hgB:=NQ hxB hyB;rw[hgg] at hgB ⊢;have HGB:=zdB (j6 (s:=sgn false g) (by rw[cz];exact hgB));have Hgg:=zdB hgg;have Hg:=zdB hg;clear h ha hb hg hsa hsb hgg;have hmx:prog.follows .mixedOrders=true:=by kernel_rfl
  go_enter func146,ntmps146;go_wp2_with fail
  (with_reducible refine(hB.out _).mono ?_);rintro e w1 ⟨v1,v2,rfl,hr1,hr2,hf1,hf2,hb1⟩
  obtain⟨a1,k1,rfl,_⟩:=hr1.open';obtain⟨a2,k2,rfl,_⟩:=hr2.open';have H1:=zdB hr1;have H2:=zdB hr2;have HB:=zdB hb1;have hs1:=hb1.size;clear hr1 hr2 hf1 hf2 hb1;have hbl: ∀o1 o2,Below w1.heap.size w1 ((w1.alloc o1).alloc o2):=λo1 o2=>((zdC _ _).alloc (za0 _) _).alloc (by simp) _;have Hbl:=zdB hbl;clear hbl;go_wp2_with fail;have rb:=Hbl.out (.cells #[.bool na, .slice a1 (ae 10000 x0).length k1] 205) (.cells #[.bool nb, .slice a2 (ae 10000 y0).length k2] 205);have RB:=zdB rb;clear rb
  go_quiet (fail)
  have RB2:=zdB (RB.out.drewN nq);have HB2:=zdB (HB.out.trans (RB2.out.mono hs1));have H1':=zdB (H1.out.below RB2.out);have H2':=zdB (H2.out.below RB2.out);clear H1 H2 RB RB2 Hbl;generalize (((w1.alloc (Obj.cells #[Value.bool na,Value.slice a1 (ae 10000 x0).length k1] 205)).alloc (Obj.cells #[Value.bool nb,Value.slice a2 (ae 10000 y0).length k2] 205)).drewN nq)=W0 at*
  go_wp2
  go_loopw [9,10] (λkv lv wr=>QE g w kv lv wr) (λ_ lv wr=>G5 wr lv)
  case atStart=>exact⟨x0,y0,_,_,_,_,rfl,rfl,H1'.out,H2'.out,HB2.out,Hgg.out,hxB,hyB⟩
  case round=>
   obtain⟨x,y,p1,q1,p2,q2,rfl,rfl,hrx,hry,hB3,hgx,hxb,hyb⟩:=hrel;have Hx:=zdB hrx;have Hy:=zdB hry;have Hgx:=zdB hgx;have hs3:=hB3.size;have Hlx:=zdB (bg hxb);have Hly:=zdB (bg hyb);clear hrx hry hgx;by_cases hy0:y=0
   ·subst hy0;have hz:(ae 10000 0).length=0:=by rw[aF];rfl
    have e1:g=x:=by rw[<-Hgx.out];simp
    subst e1;simp only[hz];clear hz;go_wp2_with fail;refine(ep _ _ _ _ Hx.out (Hg.out.below hB3) (by have:=Hlx.out;omega)).mono ?_;rw[HGB.out];rintro e W6 ⟨rfl,hb6⟩;have HB6:=zdB (hB3.trans (hb6.mono hs3));clear hb6;go_wp2
    go_ret2
    exact⟨rfl,HB6.out⟩
   ·have hl0:0<(ae 10000 y).length:=zbo.2 (λe=>hy0 ((aZ (by decide)).1 e));obtain⟨ny,hny⟩: ∃n,(ae 10000 y).length=n:=⟨_,rfl⟩;rw[hny] at hl0;have Hny:=zdB hny;have Hy0:=zdB hy0;rw[hny] at Hy;simp only[hny];clear hny hy0;go_wp2_with fail;refine(iW x y (by have:=Hy0.out;omega) _ _ _ Hx.out Hy.out (by have:=Hlx.out;omega) (by have:=Hly.out;omega) (GX Hx.out)).mono ?_;rintro e W2 ⟨v3,v4,rfl,hr3,hr4,hf3,hf4,hb2⟩;obtain⟨a4,k4,rfl,_⟩:=hr4.open';have HR4:=zdB hr4;have Hy2:=zdB (Hy.out.below hb2);have HB6:=zdB (hB3.trans (hb2.mono hs3));clear hr3 hr4 hf3 hf4 hb2;go_wp2
    go_roundw
    case rel=>
     refine⟨y,x%y,_,_,_,_,by rw[Hny.out],rfl,Hy2.out,HR4.out,HB6.out, ?_,hyb, ?_⟩
     ·rw[<-Hgx.out,zbL x y,Nat.gcd_rec y x,zbL]
     ·have:=zar x (show y>0 by have:=Hy0.out;omega);omega
    case measure=>
     rw[yH HR4.out,yH Hy.out];exact zar x (by have:=Hy0.out;omega)
 ·have hr:cM a b=(ByteArray.empty,30):=by unfold cM;rw[if_neg h]
  rw[hr];have hB:=zdB (λw=>lQ a b (zbc _▸h) w hsa hsb);clear h hr hsa hsb hg;go_enter func146,ntmps146;go_wp2_with fail
  (with_reducible refine(hB.out _).mono ?_);rintro e w1 ⟨rfl,hb1⟩
  have HB:=zdB hb1;clear hb1;go_wp2
  go_ret2
  refine⟨rfl, ?_⟩;have:=HB.out.size;exact(HB.out.alloc (by omega) _).alloc (by simp;omega) _
theorem dN (x y:Nat) (va vb:Value) (w:World) (ha:Rd am w va (ae 10 x)) (hb:Rd am w vb (ae 10 y)):
 Calls prog 277 #[va,vb] w λe w'=>e= .returned (.int .i64 (dB x y))/\Below w.heap.size w w':=by
 obtain⟨aa,ca,rfl,hca,hca2,hcella⟩:=ha.open';obtain⟨ab,cb,rfl,hcb,hcb2,hcellb⟩:=hb.open';have Hca:=zdB hcella;clear hcella;have Hcb:=zdB hcellb;clear hcellb;clear ha hb;by_cases hlen:(ae 10 x).length=(ae 10 y).length
 ·obtain⟨n,hn⟩: ∃n,(ae 10 x).length=n:=⟨_,rfl⟩;have Hx:=zdB hn;have Hy:=zdB (hlen.symm.trans hn);rw[<-hlen,hn] at hcb ⊢;rw[hn] at hca;clear hlen hn;have hc:((n:Int) !=n)=false:=by simp
  go_enter func277,ntmps277;go_wp2
  go_loopw [5] (λi wr=> ∃j:Nat,j<=n/\i= .int .i64 ((j:Int) - 1)/\(ae 10 x).drop j=(ae 10 y).drop j/\Below w.heap.size w wr) (λi _=>(intOf i+1).toNat)
  case atStart=>exact⟨n,za0 _,rfl,by rw[zcK (by rw[Hx.out];exact za0 _),zcK (by rw[Hy.out];exact za0 _)],zdC _ _⟩
  case round=>
   obtain⟨j,hj,rfl,hd,hB⟩:=hrel;have Hd:=zdB hd;clear hd;cases j with
   |zero=>
    go_wp2;go_ret;exact⟨ze (BT (nI (B:=10) (by decide) (by simpa using Hd.out))).symm,hB⟩
   |succ m=>
    obtain⟨ba,oa,rfl,hba,hc1⟩:=Hca.out m (by rw[Hx.out];omega);obtain⟨bb,ob,rfl,hbb,hc2⟩:=Hcb.out m (by rw[Hy.out];omega);have k1:=(hB.cell (p:=⟨ba,oa+m,none⟩) hba).trans hc1;have k2:=(hB.cell (p:=⟨bb,ob+m,none⟩) hbb).trans hc2;clear hc1 hc2;obtain⟨dx,ex⟩: ∃d,(ae 10 x)[m]'(by rw[Hx.out];omega)=d:=⟨_,rfl⟩;obtain⟨dy,ey⟩: ∃d,(ae 10 y)[m]'(by rw[Hy.out];omega)=d:=⟨_,rfl⟩;rw[ex] at k1;rw[ey] at k2;have Ex:=zdB ex;clear ex;have Ey:=zdB ey;clear ey;by_cases h:dx=dy
    ·have c1:((dx:Int) !=dy)=false:=by simp[h]
     have Hn:=zdB (Dn (by rw[Hx.out];omega) (by rw[Hy.out];omega) Hd.out (Ex.out.trans (h.trans Ey.out.symm)));clear h;go_wp2
     go_quiet (fail)
     go_wp2
     go_roundw
     case rel=>exact⟨m,by omega,by go_num,Hn.out,hB.drewN _⟩
     case measure=>simp[intOf]
    ·have c1:((dx:Int) !=dy)=true:=by rw[zdA];omega
     by_cases hlt:dx<dy
     ·have c2:decide (dx<dy)=true:=by simp[hlt]
      have Hn:=zdB (lD (by decide) (by rw[Hx.out];omega) (by rw[Hy.out];omega) Hd.out (by rw[Ex.out,Ey.out];exact hlt):x<y);clear h;go_wp2
      go_quiet (fail)
      go_wp2
      go_quiet (fail)
      go_wp2;go_ret;exact⟨ze (jN Hn.out).symm,(hB.drewN _).drewN _⟩
     ·have c2:decide (dx<dy)=false:=by simp[hlt]
      have Hn:=zdB (lD (B:=10) (by decide) (by rw[Hy.out];omega) (by rw[Hx.out];omega) Hd.out.symm (by rw[Ex.out,Ey.out];omega):y<x);clear h;go_wp2
      go_quiet (fail)
      go_wp2
      go_quiet (fail)
      go_wp2;go_ret;exact⟨ze (jO Hn.out).symm,(hB.drewN _).drewN _⟩
 ·obtain⟨n,hn⟩: ∃n,(ae 10 x).length=n:=⟨_,rfl⟩;obtain⟨m,hm⟩: ∃m,(ae 10 y).length=m:=⟨_,rfl⟩;have h1:n<m->x<y:=λh=>fX (B:=10) (by decide) (by omega);have h2:m<n->y<x:=λh=>fX (B:=10) (by decide) (by omega);rw[hn,hm] at hlen;rw[hn] at hca ⊢;rw[hm] at hcb ⊢;clear hn hm Hca Hcb;have c1:((n:Int) !=m)=true:=by rw[zdA];omega
  by_cases hlt:n<m
  ·have Hn:=zdB (h1 hlt);clear h1 h2;go_enter func277,ntmps277;go_wp2;go_ret;exact⟨ze (jN Hn.out).symm,zdC _ _⟩
  ·have Hn:=zdB (h2 (by omega));clear h1 h2;go_enter func277,ntmps277;go_wp2;go_ret;exact⟨ze (jO Hn.out).symm,zdC _ _⟩
theorem iX (l:zdH) (hd: ∀d∈l,d<10) (v:Value) (w:World) (hv:Rd am w v l):
 Calls prog 332 #[v] w λe w'=> ∃v',e= .returned v'/\Rd am w' v' (ae 10 (val 10 l))/\(∀B,From B v->From B v')/\Below w.heap.size w w':=by
 rw[<-xQ (by decide) l hd];obtain⟨a,cap,rfl,hca,hca2,hcell⟩:=hv.open';have Hadr:=zdB hv.addr;have Hc:=zdB hcell;clear hcell hv hd;obtain⟨n,hn⟩: ∃n,l.length=n:=⟨_,rfl⟩;have Hn:=zdB hn;rw[hn] at hca ⊢;clear hn;go_enter func332,ntmps332;go_wp2
 go_loopw [0] (λs wr=> ∃k:Nat,k<=n/\s= .slice a k cap/\fW (l.take k)=fW l/\Below w.heap.size w wr) (λs _=>match s with| .slice _ k _=>k|_=>0)
 case atStart=>exact⟨n,za0 _,rfl,by rw[zaI (by rw[Hn.out];exact za0 _)],zdC _ _⟩
 case round=>
  obtain⟨k,hk,rfl,ht,hB⟩:=hrel;have Ht:=zdB ht;clear ht;cases k with
  |zero=>
   go_wp2;go_ret;refine⟨_,rfl, ?_,λB h=>h.len,hB⟩;rw[<-Ht.out,zbu,uO];have:=(Rd.take_of (k:=0) (zaA _) (zaA _) hca2 Hc.out Hadr.out.1 Hadr.out.2).below hB;rwa[zbu] at this
  |succ m=>
   have hm:m<l.length:=by rw[Hn.out];omega
   have Hr:=zdB (Rd.take_of (k:=m+1) (by omega) (by omega) hca2 Hc.out Hadr.out.1 Hadr.out.2);obtain⟨b,off,rfl,hb,hc1⟩:=Hc.out m hm;have k1:=(hB.cell (p:=⟨b,off+m,none⟩) hb).trans hc1;clear hc1;by_cases h0:l[m]=0
   ·have c1:((l[m]:Int)==0)=true:=by rw[h0];rfl
    have Ht2:=zdB ((rp hm h0).symm.trans Ht.out);clear h0;go_wp2
    go_roundw
    case rel=>exact⟨m,by omega,rfl,Ht2.out,hB⟩
    case measure=>simp
   ·have c1:((l[m]:Int)==0)=false:=by rw[zdw];omega
    have Ht2:=zdB ((rq hm h0).symm.trans Ht.out);clear h0;go_wp2;go_ret;refine⟨_,rfl, ?_,λB h=>h.len,hB⟩;rw[<-Ht2.out];exact Hr.out.below hB
def Cu (x y:Nat) (w:World) (out carry i:Value) (wr:World):Prop:=
 ∃(k c:Nat) (l:zdH),i= .int .i64 k/\carry= .int .i64 c/\OwnL am 3 wr w.heap.size out l/\Below w.heap.size w wr/\l.length=k/\c<=1/\(∀d∈l,d<10)/\
  val 10 l+10^k*c=val 10 ((ae 10 x).take k)+val 10 ((ae 10 y).take k)/\
  (k<=(ae 10 x).length\/k<=(ae 10 y).length\/(l.getLast? ≠some 0/\c=0))
variable {k c da db:Nat} {w1:World} {out i' c':Value}
theorem gG 
 (hl:l.length=k) (hd: ∀d∈l,d<10) (hv:val 10 l+10^k*c=val 10 ((ae 10 x).take k)+val 10 ((ae 10 y).take k))
 (Y:(ae 10 x).getD k 0=da) (a0:(ae 10 y).getD k 0=db) (e0:k<(ae 10 x).length\/k<(ae 10 y).length\/0<c) (hc:c<=1)
 (J:OwnL am 3 w1 w.heap.size out (l++ [(c+da+db)%10])) (hB:Below w.heap.size w w1) (hi:i'= .int .i64 ((k+1:Nat):Int)) (N:c'= .int .i64 (((c+da+db) / 10:Nat):Int)):
 Cu x y w out c' i' w1:=by
 subst Y;subst a0;have h1:=ff (B:=10) (by decide) x k;have h2:=ff (B:=10) (by decide) y k;refine⟨k+1,_,_,hi,N,J,hB,by simp[hl],by omega, ?_,FM hv hl, ?_⟩
 ·intro d H;rcases za8.1 H with H|H
  ·exact hd d H
  ·simp at H;omega
 ·by_cases e1:k<(ae 10 x).length
  ·exact .inl e1
  ·by_cases e2:k<(ae 10 y).length
   ·exact .inr (.inl e2)
   ·have e3:(ae 10 x).getD k 0=0:=by rw[List.getD,zad (by omega)];rfl
    have e4:(ae 10 y).getD k 0=0:=by rw[List.getD,zad (by omega)];rfl
    refine .inr (.inr ⟨?_, ?_⟩)
    ·rw[List.getLast?_concat,e3,e4];simp;omega
    ·rw[e3,e4];omega
theorem qq (x y:Nat) (va vb:Value) (w:World) (ha:Rd am w va (ae 10 x)) (hb:Rd am w vb (ae 10 y)) (hx:(ae 10 x).length<=1000) (hy:(ae 10 y).length<=1000):
 Calls prog 281 #[va,vb] w λe w'=> ∃v,e= .returned v/\Rd am w' v (ae 10 (x+y))/\From w.heap.size v/\Below w.heap.size w w':=by
 obtain⟨aa,ca,rfl,hca,hca2,hcella⟩:=ha.open';obtain⟨ab,cb,rfl,hcb,hcb2,hcellb⟩:=hb.open';have Hca:=zdB hcella;clear hcella;have Hcb:=zdB hcellb;clear hcellb;clear ha hb;obtain⟨n,hn⟩: ∃n,(ae 10 x).length=n:=⟨_,rfl⟩;obtain⟨m,hm⟩: ∃n,(ae 10 y).length=n:=⟨_,rfl⟩;have Hn:=zdB hn;have Hm:=zdB hm;rw[hn] at hca hx ⊢;rw[hm] at hcb hy ⊢;clear hn hm;go_enter func281,ntmps281;go_wp2
 go_loopw [5,6,7] (λout carry i wr=>Cu x y w out carry i wr) (λ_ c i _=>(2*(n+m+2 - intOf i)+intOf c).toNat)
 case atStart=>exact⟨0,0, [],rfl,rfl,OwnL.nil _ _,zdC _ _,rfl,by omega,by simp,by simp[val],by omega⟩
 case round=>
  obtain⟨k,c,l,rfl,rfl,hown,hB,hl,hc,hd,hv,hk⟩:=hrel;have Hl:=zdB hl;clear hl;have Hd:=zdB hd;clear hd;have Hv:=zdB hv;clear hv;have Hk:=zdB hk;clear hk;by_cases hin:k<n\/k<m\/0<c
  ·have hkb:k<=n+m:=by
    have h5:=Hk.out;rw[Hn.out,Hm.out] at h5;omega
   by_cases hkn:k<n
   ·obtain⟨ba,oa,rfl,hba,hc1⟩:=Hca.out k (by rw[Hn.out];omega);have k1:=(hB.cell (p:=⟨ba,oa+k,none⟩) hba).trans hc1;obtain⟨da,eda⟩: ∃d,(ae 10 x)[k]'(by rw[Hn.out];omega)=d:=⟨_,rfl⟩;have hda:da<10:=by rw[<-eda];exact aK (by decide) x _ (zas _)
    have Hda:=zdB (show (ae 10 x).getD k 0=da by rw[List.getD,zaa (by rw[Hn.out];omega),eda];rfl);rw[eda] at k1;clear hc1 eda;by_cases hkm:k<m
    ·obtain⟨bb,ob,rfl,hbb,hc2⟩:=Hcb.out k (by rw[Hm.out];omega);have k2:=(hB.cell (p:=⟨bb,ob+k,none⟩) hbb).trans hc2;obtain⟨db,edb⟩: ∃d,(ae 10 y)[k]'(by rw[Hm.out];omega)=d:=⟨_,rfl⟩;have hdb:db<10:=by rw[<-edb];exact aK (by decide) y _ (zas _)
     have Hdb:=zdB (show (ae 10 y).getD k 0=db by rw[List.getD,zaa (by rw[Hm.out];omega),edb];rfl);rw[edb] at k2;clear hc2 edb;have Hin:=zdB hin;clear hin;have hlb:l.length<=n+m+2:=by rw[Hl.out];omega
     have hbs:=hB.size;go_wp2_with (at_builtin;(refine py rfl _ _ rfl rfl (hown.alloc _) wr.heap.size 1 _ rfl (aP _ _ _) ((c+da+db)%10) (int_eq (by omega)) (by omega) (by simp;omega) ?_);intro v' w1 hown1 hB1)
     go_roundw
     case rel=>exact gG Hl.out Hd.out Hv.out Hda.out Hdb.out (by rw[Hn.out,Hm.out];exact Hin.out) hc hown1 ((hB.alloc hB.size _).trans hB1) (int_eq (by omega)) (int_eq (by omega))
     case measure=>simp[intOf];omega
    ·have Hdb:=zdB (show (ae 10 y).getD k 0=0 by rw[List.getD,zad (by rw[Hm.out];omega)];rfl);have Hin:=zdB hin;clear hin;have hlb:l.length<=n+m+2:=by rw[Hl.out];omega
     have hbs:=hB.size;go_wp2_with (at_builtin;refine py rfl _ _ rfl rfl (hown.alloc _) wr.heap.size 1 _ rfl (aP _ _ _) ((c+da+0)%10) (int_eq (by omega)) (by omega) (by simp;omega) ?_;intro v' w1 hown1 hB1)
     go_roundw
     case rel=>exact gG Hl.out Hd.out Hv.out Hda.out Hdb.out (by rw[Hn.out,Hm.out];exact Hin.out) hc hown1 ((hB.alloc hB.size _).trans hB1) (int_eq (by omega)) (int_eq (by omega))
     case measure=>simp[intOf];omega
   ·have Hda:=zdB (show (ae 10 x).getD k 0=0 by rw[List.getD,zad (by rw[Hn.out];omega)];rfl);by_cases hkm:k<m
    ·obtain⟨bb,ob,rfl,hbb,hc2⟩:=Hcb.out k (by rw[Hm.out];omega);have k2:=(hB.cell (p:=⟨bb,ob+k,none⟩) hbb).trans hc2;obtain⟨db,edb⟩: ∃d,(ae 10 y)[k]'(by rw[Hm.out];omega)=d:=⟨_,rfl⟩;have hdb:db<10:=by rw[<-edb];exact aK (by decide) y _ (zas _)
     have Hdb:=zdB (show (ae 10 y).getD k 0=db by rw[List.getD,zaa (by rw[Hm.out];omega),edb];rfl);rw[edb] at k2;clear hc2 edb;have Hin:=zdB hin;clear hin;have hlb:l.length<=n+m+2:=by rw[Hl.out];omega
     have hbs:=hB.size;go_wp2_with (at_builtin;refine py rfl _ _ rfl rfl (hown.alloc _) wr.heap.size 1 _ rfl (aP _ _ _) ((c+0+db)%10) (int_eq (by omega)) (by omega) (by simp;omega) ?_;intro v' w1 hown1 hB1)
     go_roundw
     case rel=>exact gG Hl.out Hd.out Hv.out Hda.out Hdb.out (by rw[Hn.out,Hm.out];exact Hin.out) hc hown1 ((hB.alloc hB.size _).trans hB1) (int_eq (by omega)) (int_eq (by omega))
     case measure=>simp[intOf];omega
    ·have Hdb:=zdB (show (ae 10 y).getD k 0=0 by rw[List.getD,zad (by rw[Hm.out];omega)];rfl);have hc0:0<c:=by omega
     have Hin:=zdB hin;clear hin;have hlb:l.length<=n+m+2:=by rw[Hl.out];omega
     have hbs:=hB.size;go_wp2_with (at_builtin;refine py rfl _ _ rfl rfl (hown.alloc _) wr.heap.size 1 _ rfl (aP _ _ _) ((c+0+0)%10) (int_eq (by omega)) (by omega) (by simp;omega) ?_;intro v' w1 hown1 hB1)
     go_roundw
     case rel=>exact gG Hl.out Hd.out Hv.out Hda.out Hdb.out (by rw[Hn.out,Hm.out];exact Hin.out) hc hown1 ((hB.alloc hB.size _).trans hB1) (int_eq (by omega)) (int_eq (by omega))
     case measure=>simp[intOf];omega
  ·have h1:decide (k<n)=false:=by simp;omega
   have h2:decide (k<m)=false:=by simp;omega
   obtain rfl:c=0:=by omega
   go_wp2;go_ret;refine⟨_,rfl, ?_,hown.from,hB⟩;rw[<-JZ (B:=10) (by decide) Hv.out Hl.out Hd.out (by rw[Hn.out];omega) (by rw[Hm.out];omega) (by rcases Hk.out with h|h|h<;>simp_all)];exact hown.rd
def yI (x y:Nat) (w:World) (out borrow i:Value) (wr:World):Prop:=
 ∃(k c:Nat) (l:zdH),i= .int .i64 k/\borrow= .int .i64 c/\OwnL am 3 wr w.heap.size out l/\Below w.heap.size w wr/\l.length=k/\c<=1/\(∀d∈l,d<10)/\
  val 10 l+val 10 ((ae 10 y).take k)+0=val 10 ((ae 10 x).take k)+10^k*c/\k<=(ae 10 x).length
variable {d:Nat}
theorem fT {c2:Nat} 
 (hl:l.length=k) (hd: ∀d∈l,d<10) (hv:val 10 l+val 10 ((ae 10 y).take k)+0=val 10 ((ae 10 x).take k)+10^k*c)
 (a0:(ae 10 x).getD k 0=da) (e0:(ae 10 y).getD k 0=db) (g0:k<(ae 10 x).length) (hc:c<=1) (h1:da+10*c2=d+c+db) (Y:c2<=1) (i0:d<10)
 (J:OwnL am 3 w1 w.heap.size out (l++ [d])) (hB:Below w.heap.size w w1) (hi:i'= .int .i64 ((k+1:Nat):Int)) (N:c'= .int .i64 (c2:Int)):
 yI x y w out c' i' w1:=by
 subst a0;subst e0;refine⟨k+1,c2,_,hi,N,J,hB,by simp[hl],Y, ?_,Dp (by decide) hv hl hc (ff (by decide) x k) (ff (by decide) y k) h1,g0⟩;intro d H;rcases za8.1 H with H|H
 ·exact hd d H
 ·simp at H;omega
theorem En (Y:val 10 l+val 10 ((ae 10 y).take k)+0=val 10 ((ae 10 x).take k)+10^k*c) (N:l.length=k) (H: ∀d∈l,d<10) (hc:c<=1)
 (J:k=(ae 10 x).length) (a0:y<=x):val 10 l=x - y:=by
 have h1:(ae 10 y).length<=k:=by
  rw[J];apply Nat.le_of_not_lt;intro h;have:=fX (B:=10) (by decide) h;omega
 rw[zaI h1,zaI (by omega:(ae 10 x).length<=k),bi (by decide),bi (by decide)] at Y;have h2:=kF (B:=10) H;rw[N] at h2;rcases(show c=0\/c=1 by omega) with rfl|rfl<;>omega
theorem gH (x y:Nat) (hxy:y<=x) (va vb:Value) (w:World) (ha:Rd am w va (ae 10 x)) (hb:Rd am w vb (ae 10 y)) (hx:(ae 10 x).length<=1000):
 Calls prog 282 #[va,vb] w λe w'=> ∃v,e= .returned v/\Rd am w' v (ae 10 (x - y))/\From w.heap.size v/\Below w.heap.size w w':=by
 obtain⟨aa,ca,rfl,hca,hca2,hcella⟩:=ha.open';obtain⟨ab,cb,rfl,hcb,hcb2,hcellb⟩:=hb.open';have Hca:=zdB hcella;clear hcella;have Hcb:=zdB hcellb;clear hcellb;clear ha hb;obtain⟨n,hn⟩: ∃n,(ae 10 x).length=n:=⟨_,rfl⟩;obtain⟨m,hm⟩: ∃n,(ae 10 y).length=n:=⟨_,rfl⟩;have Hn:=zdB hn;have Hm:=zdB hm;rw[hn] at hca hx ⊢;rw[hm] at hcb ⊢;clear hn hm;go_enter func282,ntmps282;go_wp2
 go_loopw [5,6,7] (λout borrow i wr=>yI x y w out borrow i wr) (λ_ c i _=>(n - intOf i).toNat)
 case atStart=>exact⟨0,0, [],rfl,rfl,OwnL.nil _ _,zdC _ _,rfl,by omega,by simp,by simp[val],by omega⟩
 case round=>
  obtain⟨k,c,l,rfl,rfl,hown,hB,hl,hc,hd,hv,hk⟩:=hrel;have Hl:=zdB hl;clear hl;have Hd:=zdB hd;clear hd;have Hv:=zdB hv;clear hv;rw[Hn.out] at hk;by_cases hin:k<n
  ·obtain⟨ba,oa,rfl,hba,hc1⟩:=Hca.out k (by rw[Hn.out];omega);have k1:=(hB.cell (p:=⟨ba,oa+k,none⟩) hba).trans hc1;obtain⟨da,eda⟩: ∃d,(ae 10 x)[k]'(by rw[Hn.out];omega)=d:=⟨_,rfl⟩;have hda:da<10:=by rw[<-eda];exact aK (by decide) x _ (zas _)
   have Hda:=zdB (show (ae 10 x).getD k 0=da by rw[List.getD,zaa (by rw[Hn.out];omega),eda];rfl);rw[eda] at k1;clear hc1 eda;have hlb:l.length<=n+2:=by rw[Hl.out];omega
   have hbs:=hB.size;by_cases hkm:k<m
   ·obtain⟨bb,ob,rfl,hbb,hc2⟩:=Hcb.out k (by rw[Hm.out];omega);have k2:=(hB.cell (p:=⟨bb,ob+k,none⟩) hbb).trans hc2;obtain⟨db,edb⟩: ∃d,(ae 10 y)[k]'(by rw[Hm.out];omega)=d:=⟨_,rfl⟩;have hdb:db<10:=by rw[<-edb];exact aK (by decide) y _ (zas _)
    have Hdb:=zdB (show (ae 10 y).getD k 0=db by rw[List.getD,zaa (by rw[Hm.out];omega),edb];rfl);rw[edb] at k2;clear hc2 edb;by_cases hneg:da<c+db
    ·go_wp2_with (at_builtin;refine py rfl _ _ rfl rfl (hown.alloc _) wr.heap.size 1 _ rfl (aP _ _ _) (da+10 - c - db) (int_eq (by omega)) (by omega) (by simp;omega) ?_;intro v' w1 hown1 hB1)
     go_roundw
     case rel=>exact fT (c2:=1) Hl.out Hd.out Hv.out Hda.out Hdb.out (by rw[Hn.out];exact hin) hc (by omega) (by decide) (by omega) hown1 ((hB.alloc hB.size _).trans hB1) (int_eq (by omega)) (int_eq (by omega))
     case measure=>simp[intOf];omega
    ·go_wp2_with (at_builtin;refine py rfl _ _ rfl rfl (hown.alloc _) wr.heap.size 1 _ rfl (aP _ _ _) (da - c - db) (int_eq (by omega)) (by omega) (by simp;omega) ?_;intro v' w1 hown1 hB1)
     go_roundw
     case rel=>exact fT (c2:=0) Hl.out Hd.out Hv.out Hda.out Hdb.out (by rw[Hn.out];exact hin) hc (by omega) (by decide) (by omega) hown1 ((hB.alloc hB.size _).trans hB1) (int_eq (by omega)) (int_eq (by omega))
     case measure=>simp[intOf];omega
   ·have Hdb:=zdB (show (ae 10 y).getD k 0=0 by rw[List.getD,zad (by rw[Hm.out];omega)];rfl);by_cases hneg:da<c
    ·go_wp2_with (at_builtin;refine py rfl _ _ rfl rfl (hown.alloc _) wr.heap.size 1 _ rfl (aP _ _ _) (da+10 - c) (int_eq (by omega)) (by omega) (by simp;omega) ?_;intro v' w1 hown1 hB1)
     go_roundw
     case rel=>exact fT (c2:=1) Hl.out Hd.out Hv.out Hda.out Hdb.out (by rw[Hn.out];exact hin) hc (by omega) (by decide) (by omega) hown1 ((hB.alloc hB.size _).trans hB1) (int_eq (by omega)) (int_eq (by omega))
     case measure=>simp[intOf];omega
    ·go_wp2_with (at_builtin;refine py rfl _ _ rfl rfl (hown.alloc _) wr.heap.size 1 _ rfl (aP _ _ _) (da - c) (int_eq (by omega)) (by omega) (by simp;omega) ?_;intro v' w1 hown1 hB1)
     go_roundw
     case rel=>exact fT (c2:=0) Hl.out Hd.out Hv.out Hda.out Hdb.out (by rw[Hn.out];exact hin) hc (by omega) (by decide) (by omega) hown1 ((hB.alloc hB.size _).trans hB1) (int_eq (by omega)) (int_eq (by omega))
     case measure=>simp[intOf];omega
  ·obtain rfl:k=n:=by omega
   go_wp2_with (go_at_call 332;refine(iX l Hd.out _ _ hown.rd).mono ?_;rintro e w1 ⟨v1,rfl,hr1,hf1,hb1⟩);go_ret;refine⟨_,rfl, ?_,hf1 _ hown.from,hB.trans (hb1.mono hB.size)⟩;rw[<-En Hv.out Hl.out Hd.out hc Hn.out.symm hxy];exact hr1
def G6 (x y N:Nat) (w:World) (g:Nat) (i:Value) (wr:World):Prop:=
 ∃(k:Nat) (o:zdH),i= .int .i64 k/\OwnL am 3 wr w.heap.size (.slice (some ⟨g,0,none⟩) N N) o/\Below w.heap.size w wr/\o.length=N/\(∀d∈o,d<10)/\
  val 10 o=val 10 ((ae 10 x).take k)*y/\k<=(ae 10 x).length
def Cv (x y N:Nat) (w:World) (g i:Nat) (carry H:Value) (wr:World):Prop:=
 ∃(k c:Nat) (o:zdH),H= .int .i64 k/\carry= .int .i64 c/\OwnL am 3 wr w.heap.size (.slice (some ⟨g,0,none⟩) N N) o/\Below w.heap.size w wr/\o.length=N/\(∀d∈o,d<10)/\c<=9/\
  val 10 o+10^(i+k)*c=val 10 ((ae 10 x).take i)*y+10^i*((ae 10 x).getD i 0*val 10 ((ae 10 y).take k))/\(k<=(ae 10 y).length\/c=0)/\k<=(ae 10 y).length+1
variable {i p ov:Nat} {o:zdH}
theorem AN {V:Nat} {b:zdH} (N:i+k<o.length) (J:o[i+k]=ov) (Y:val 10 o+10^(i+k)*c=V*y+10^i*(da*val 10 (b.take k))) (H:b.getD k 0=db) (hp:da*db=p):
 val 10 (o.set (i+k) ((ov+c+p)%10))+10^(i+(k+1))*((ov+c+p) / 10)=V*y+10^i*(da*val 10 (b.take (k+1))):=by
 have h:=FN (ab:=p) N Y;rw[J] at h;rw[cj,H,zao da,<-zaD da,zay da (10^k),zaD (10^k),hp,zao (10^i),<-zaD (10^i) (10^k),<-zbv];have e:i+(k+1)=i+k+1:=by omega
 rw[e];omega
theorem AO {j:Nat} (h: ∀x∈o,x<10) (J:d<10): ∀x∈o.set j d,x<10:=by
 intro x H;rcases zcL H with h1|h1
 ·exact h x h1
 ·omega
theorem X0 {N:Nat} {g:Nat} {k' u:Value}
 (J:OwnL am 3 wr w.heap.size (.slice (some ⟨g,0,none⟩) N N) o) (hB:Below w.heap.size w wr) (l0:o.length=N) (i0: ∀d∈o,d<10) (hj:i+k<o.length) (n0:o[i+k]=ov) (hg:w.heap.size<=g)
 (hv:val 10 o+10^(i+k)*c=val 10 ((ae 10 x).take i)*y+10^i*((ae 10 x).getD i 0*val 10 ((ae 10 y).take k))) (e0:(ae 10 x).getD i 0=da) (g0:(ae 10 y).getD k 0=db) (hp:da*db=p)
 (o0:ov<10) (q0:c<=9) (u0:p<=81) (Y:k<(ae 10 y).length\/ov+c+p<10) (v0:k<=(ae 10 y).length) (j0:k'= .int .i64 ((k+1:Nat):Int)) (a0:c'= .int .i64 (((ov+c+p) / 10:Nat):Int)) (hu:u=am ((ov+c+p)%10)) (q:Nat):
 Cv x y N w g i c' k' ((wr.drewN q).setCell ⟨g,i+k,none⟩ u):=by
 have H:OwnL am 3 (wr.drewN q) w.heap.size (.slice (some ⟨g,0,none⟩) N N) o:=J;refine⟨k+1,_,_,j0,a0,H.set (i+k) hj ((ov+c+p)%10) hu,(hB.drewN q).setCell hg _,by simpa using l0,AO i0 (by omega),by omega, ?_, ?_,by omega⟩
 ·rw[e0] at hv ⊢;exact AN hj n0 hv g0 hp
 ·rcases Y with Y|Y
  ·exact .inl Y
  ·exact .inr (by omega)
theorem wP (x y:Nat) (va vb:Value) (w:World) (ha:Rd am w va (ae 10 x)) (hb:Rd am w vb (ae 10 y)) (hx:(ae 10 x).length<=1000) (hy:(ae 10 y).length<=1000):
 Calls prog 293 #[va,vb] w λe w'=> ∃v,e= .returned v/\Rd am w' v (ae 10 (x*y))/\From w.heap.size v/\Below w.heap.size w w':=by
 obtain⟨aa,ca,rfl,hca,hca2,hcella⟩:=ha.open';obtain⟨ab,cb,rfl,hcb,hcb2,hcellb⟩:=hb.open';have Hca:=zdB hcella;clear hcella;have Hcb:=zdB hcellb;clear hcellb;clear ha hb;obtain⟨n,hn⟩: ∃n,(ae 10 x).length=n:=⟨_,rfl⟩;obtain⟨m,hm⟩: ∃n,(ae 10 y).length=n:=⟨_,rfl⟩;have Hn:=zdB hn;have Hm:=zdB hm;rw[hn] at hca hx ⊢;rw[hm] at hcb hy ⊢;clear hn hm;go_enter func293,ntmps293;go_wp2_with (at_make;refine aca (enc:=am) (e:=3) (B:=w.heap.size) rfl _ _ 202 rfl 0 8 underlying202 aFs rfl .i64 .i64 _ _ (n+m) rfl rfl (by omega) (by omega) (by omega) (by decide) (za0 _) ?_;intro w1 hown1 hB1)
 go_loopw [6] (λi wr=>G6 x y (n+m) w w.heap.size i wr) (λi _=>(n - intOf i).toNat)
 case atStart=>exact⟨0,_,rfl,hown1,hB1,by simp,by simp,by simp[val,mF],zaA _⟩
 case round=>
  obtain⟨i,o,rfl,hown,hB,hlo,hdo,hvo,hio⟩:=hrel;have Hlo:=zdB hlo;clear hlo;have Hdo:=zdB hdo;clear hdo;have Hvo:=zdB hvo;clear hvo;have Hown:=zdB hown;clear hown;clear hown1 hB1;rw[Hn.out] at hio;by_cases hin:i<n
  ·obtain⟨ba,oa,rfl,hba,hc1⟩:=Hca.out i (by rw[Hn.out];omega);obtain⟨da,eda⟩: ∃d,(ae 10 x)[i]'(by rw[Hn.out];omega)=d:=⟨_,rfl⟩;have hda:da<10:=by rw[<-eda];exact aK (by decide) x _ (zas _)
   have Hda:=zdB (show (ae 10 x).getD i 0=da by rw[List.getD,zaa (by rw[Hn.out];omega),eda];rfl);rw[eda] at hc1;clear eda;obtain⟨wo,hwo⟩: ∃wo:World,wo=wr:=⟨_,rfl⟩;rw[<-hwo] at Hown hB;subst hwo;have Hc1:=zdB hc1;clear hc1;go_wp2
   go_loopw [7,8] (λc k wr=>Cv x y (n+m) w w.heap.size i c k wr) (λ_ k _=>(m+2 - intOf k).toNat)
   case atStart=>exact⟨0,0,o,rfl,rfl,Hown.out,hB,Hlo.out,Hdo.out,by omega,by rw[Hvo.out];simp[val], .inl (zaA _),by omega⟩
   case round=>
    obtain⟨k,c,o2,rfl,rfl,hown,hB2,hlo2,hdo2,hc,hv2,hk,hk2⟩:=hrel;rw[Hm.out] at hk hk2;have Hlo2:=zdB hlo2;clear hlo2;have Hdo2:=zdB hdo2;clear hdo2;have Hv2:=zdB hv2;clear hv2;by_cases hkin:k<m\/0<c
    ·have hj:i+k<o2.length:=by rw[Hlo2.out];omega
     have k1:=(hB2.cell (p:=⟨ba,oa+i,none⟩) hba).trans Hc1.out;have k3:=hown.cell (i+k) hj;have k4:=hown.free (i+k);obtain⟨ov,eov⟩: ∃d,o2[i+k]=d:=⟨_,rfl⟩;have hov:ov<10:=by rw[<-eov];exact Hdo2.out _ (zas _)
     rw[eov] at k3;have Eov:=zdB eov;clear eov;have hbs:=hB2.size;by_cases hkm:k<m
     ·obtain⟨bb,ob,rfl,hbb,hc2⟩:=Hcb.out k (by rw[Hm.out];omega);have k2:=(hB2.cell (p:=⟨bb,ob+k,none⟩) hbb).trans hc2;obtain⟨db,edb⟩: ∃d,(ae 10 y)[k]'(by rw[Hm.out];omega)=d:=⟨_,rfl⟩;have hdb:db<10:=by rw[<-edb];exact aK (by decide) y _ (zas _)
      have Hdb:=zdB (show (ae 10 y).getD k 0=db by rw[List.getD,zaa (by rw[Hm.out];omega),edb];rfl);rw[edb] at k2;obtain⟨p,hp⟩: ∃p,da*db=p:=⟨_,rfl⟩;have hp2:p<=81:=by rw[<-hp];exact zb4 (by omega:da<=9) (by omega:db<=9)
      have Hp:=zdB hp;have hp3:(da:Int)*(db:Int)=(p:Int):=by rw[<-hp];simp
      clear hc2 edb hp;go_wp2;have hw1:IntKind.i64.wrap (p:Int)=p:=IntWalk.i64_in _ (by omega);have hw2:IntKind.i64.wrap ((ov:Int)+c+p)=(ov:Int)+c+p:=IntWalk.i64_in _ (by omega)
      go_quiet (fail)
      clear hw1 hw2;go_wp2
      go_roundw
      case rel=>exact X0 hown hB2 Hlo2.out Hdo2.out hj Eov.out (za0 _) Hv2.out Hda.out Hdb.out Hp.out hov hc hp2 (.inl (by rw[Hm.out];exact hkm)) (by rw[Hm.out];omega) (int_eq (by omega)) (int_eq (by omega)) (int_eq (by omega)) _
      case measure=>simp[intOf];omega
     ·obtain rfl:k=m:=by omega
      have Hdb:=zdB (show (ae 10 y).getD k 0=0 by rw[List.getD,zad (by rw[Hm.out];omega)];rfl);have hsum:ov+c<10:=by
       have h5:=FO (B:=10) (by decide) hj Hv2.out (by
        rw[show (ae 10 y).take k=ae 10 y from zaI (by rw[Hm.out];omega),bi (n:=y) (by decide)];have h6:=Dr (B:=10) (i:=i) (lb:=k) (a:=ae 10 x) (b:=ae 10 y) (aK (by decide) x) (aK (by decide) y) Hm.out (by rw[Hn.out];exact hin);rw[bi (by decide),cj,zaG,zaD] at h6
        exact h6)
       rw[Eov.out] at h5;exact h5
      have hc0:0<c:=by omega
      go_wp2
      go_roundw
      case rel=>exact X0 (q:=0) (p:=0) hown hB2 Hlo2.out Hdo2.out hj Eov.out (za0 _) Hv2.out Hda.out Hdb.out (by simp) hov hc (by omega) (.inr (by omega)) (by rw[Hm.out];omega) (int_eq (by omega)) (int_eq (by omega)) (int_eq (by omega))
      case measure=>simp[intOf];omega
    ·obtain rfl:c=0:=by omega
     have h1:decide (k<m)=false:=by simp;omega
     go_wp2
     go_roundw
     case rel=>
      refine⟨i+1,o2,int_eq (by omega),hown,hB2,Hlo2.out,Hdo2.out, ?_,by rw[Hn.out];omega⟩;have h5:=Hv2.out;rw[show (ae 10 y).take k=ae 10 y from zaI (by rw[Hm.out];omega),bi (n:=y) (by decide)] at h5;rw[cj,zaG,zaD];omega
     case measure=>simp[intOf];omega
  ·obtain rfl:i=n:=by omega
   have hown2:=Hown.out;go_wp2_with (go_at_call 332;refine(iX o Hdo.out _ _ hown2.rd).mono ?_;rintro e w1 ⟨v1,rfl,hr1,hf1,hb1⟩);go_ret;refine⟨_,rfl, ?_,hf1 _ hown2.from,hB.trans (hb1.mono hB.size)⟩;have h5:=Hvo.out;rw[zaI (by rw[Hn.out];omega),bi (by decide)] at h5;rwa[h5] at hr1
def NR (x y N:Nat) (w:World) (g:Nat) (H i:Value) (wr:World):Prop:=
 ∃(j R:Nat) (q:zdH),i= .int .i64 ((j:Int) - 1)/\Rd am wr H (ae 10 R)/\From w.heap.size H/\OwnL am 3 wr w.heap.size (.slice (some ⟨g,0,none⟩) N N) q/\Below w.heap.size w wr/\DivInv 10 x y j R q/\j<=N
def PB (x y N:Nat) (w:World) (g:Nat) (j d R:Nat) (q:zdH) (J:Value) (wr:World):Prop:=
 ∃(t H:Nat),Rd am wr J (ae 10 H)/\From w.heap.size J/\OwnL am 3 wr w.heap.size (.slice (some ⟨g,0,none⟩) N N) (q.set j t)/\Below w.heap.size w wr/\H+t*y=d+10*R/\t<=9
def wQ (wr:World) (H:Value):Nat:=open Classical in if h: ∃R,Rd am wr H (ae 10 R) then h.choose else 0
variable {rv:Value}
theorem Eo (h1:Rd am wr rv l) (h2:Rd am wr rv m):l=m:=by
 obtain⟨a,c,rfl,_,_,k1⟩:=h1.open';obtain⟨a2,c2,e,_,_,k2⟩:=h2.open';injection e with e1 e2 e3
 subst e1;refine zbt e2 λi hi N=> ?_;obtain⟨b,off,ha,_,hc⟩:=k1 i hi;obtain⟨b2,Y,H,_,J⟩:=k2 i N;rw[ha] at H;injection H with H;injection H with e4 e5
 subst e4;subst e5;rw[hc] at J;simp only[za1,am,Value.int.injEq,true_and] at J;omega
theorem lU (h:Rd am wr rv (ae 10 R)):wQ wr rv=R:=by
 have h2: ∃R,Rd am wr rv (ae 10 R):=⟨R,h⟩;unfold wQ;rw[dif_pos h2];exact nI (B:=10) (by decide) (Eo h2.choose_spec h)
theorem yJ (h:y<=x):decide (0<=dB x y)=true:=by
 have: ¬x<y:=by omega
 simp only[dB,this,if_false,zdt];split<;>decide
theorem yK (h:x<y):decide (0<=dB x y)=false:=by rw[jN h];rfl
variable {B R2 t:Nat}
theorem Ep (h:R2+t*y=d+B*R) (h1:y<=R2) (J:d<B) (H:R<y):t+1<B:=by
 have e:(t+1)*y=t*y+y:=zce t y;have h2:B*(R+1)<=B*y:=zb5 B H;rw[zao] at h2;exact Nat.lt_of_mul_lt_mul_right (a:=y) (by omega)
theorem G7 (h:R2+t*y=d+B*R) (h1:y<=R2):(R2 - y)+(t+1)*y=d+B*R:=by
 have e:(t+1)*y=t*y+y:=zce t y;omega
theorem tf (x y:Nat) (hy0:0<y) (va vb:Value) (w:World) (ha:Rd am w va (ae 10 x)) (hb:Rd am w vb (ae 10 y)) (hx:(ae 10 x).length<=900) (hy:(ae 10 y).length<=900):
 Calls prog 279 #[va,vb] w λe w'=> ∃v1 v2,e= .returned (.tuple #[v1,v2])/\Rd am w' v1 (ae 10 (x / y))/\Rd am w' v2 (ae 10 (x%y))/\From w.heap.size v1/\From w.heap.size v2/\Below w.heap.size w w':=by
 obtain⟨aa,ca,rfl,hca,hca2,hcella⟩:=ha.open';have Hca:=zdB hcella;clear hcella;have Hb:=zdB hb;clear ha hb;obtain⟨n,hn⟩: ∃n,(ae 10 x).length=n:=⟨_,rfl⟩;have Hn:=zdB hn;rw[hn] at hca hx ⊢;clear hn;go_enter func279,ntmps279;go_wp2_with (at_make;refine aca (enc:=am) (e:=3) (B:=w.heap.size) rfl _ _ 202 rfl 0 8 underlying202 aFs rfl .i64 .i64 _ _ n rfl rfl rfl rfl (by omega) (by decide) (za0 _) ?_;intro w1 hown1 hB1)
 go_loopw [7,8] (λrv i wr=>NR x y n w w.heap.size rv i wr) (λ_ i _=>(intOf i+1).toNat)
 case atStart=>exact⟨n,0,_,rfl, .inl ⟨rfl,aF 10⟩,From.nil _,hown1,hB1,by rw[<-Hn.out];exact DivInv.start hy0,za0 _⟩
 case round=>
  obtain⟨j,R,q,rfl,hr,hfr,hown,hB,hinv,hjn⟩:=hrel;have Hinv:=zdB hinv;clear hinv;have Hr:=zdB hr;clear hr;have Hown:=zdB hown;clear hown;clear hown1 hB1;cases j with
  |zero=>
   go_wp2_with (go_at_call 332;refine(iX q (Hinv.out.digits (by decide)) _ _ Hown.out.rd).mono ?_;rintro e w1 ⟨v1,rfl,hr1,hf1,hb1⟩)
   go_ret2
   have e1:=Hinv.out.done (by decide);refine⟨_,_,rfl, ?_, ?_,hf1 _ Hown.out.from,hfr,hB.trans (hb1.mono hB.size)⟩
   ·rw[<-e1.1];exact hr1
   ·rw[<-e1.2];exact Hr.out.below hb1
  |succ j=>
   obtain⟨ba,oa,rfl,hba,hc1⟩:=Hca.out j (by rw[Hn.out];omega);have k1:=(hB.cell (p:=⟨ba,oa+j,none⟩) hba).trans hc1;obtain⟨d,ed⟩: ∃d,(ae 10 x)[j]'(by rw[Hn.out];omega)=d:=⟨_,rfl⟩;have hd:d<10:=by rw[<-ed];exact aK (by decide) x _ (zas _)
   rw[ed] at k1;have Ed:=zdB ed;clear hc1 ed;have hRy:R<y:=by obtain⟨_,_,_,_,_,h⟩:=Hinv.out;exact h
   have hRl:=aD (B:=10) (by decide) (zbs hRy);have hld: ∀z∈ [d]++ae 10 R,z<10:=by
    intro z hz;rcases za8.1 hz with h|h
    ·simp at h;omega
    ·exact aK (by decide) R z h
   have Hld:=zdB hld;clear hld;have hbs:=hB.size;go_wp2_with (first|(at_builtin;refine wF (enc:=am) (e:=3) rfl _ _ 202 rfl (.int .i64 0) 8 underlying202 aFs rfl du rfl (OwnL.lit1 wr d rfl) rfl (Hr.out.below ((zdC _ _).alloc (za0 _) _)) (by simp;omega) (by decide) (by simp) ?_;intro v' w1 hown1 hB1)|(go_at_call 332;refine(iX ([d]++ae 10 R) Hld.out _ _ hown1.rd).mono ?_;rintro e w2 ⟨v2,rfl,hr2,hf2,hb2⟩));rw[Dt (by decide) hd] at hr2;have hb12:Below wr.heap.size wr w2:=(((zdC _ _).alloc (za0 _) _).trans hB1).trans (hb2.mono (by have:=hB1.size;simp at this;omega));have hownq:OwnL am 3 w2 w.heap.size (.slice (some ⟨w.heap.size,0,none⟩) n n) (q.set j 0):=by
    have e0:q.set j 0=q:=by
     have hjq:j<q.length:=by rw[Hinv.out.length,Hn.out];omega
     have e1:=Hinv.out.zero hjq;apply zbt (by simp);intro i h1 h2;rw[List.getElem_set];split
     ·rename_i e;subst e;exact e1.symm
     ·rfl
    rw[e0];exact Hown.out.belowTo hb12
   have hB2:Below w.heap.size w w2:=hB.trans (hb12.mono hB.size);have hql:q.length=n:=by rw[Hinv.out.length,Hn.out]
   have Hql:=zdB hql;clear hql;have hown1f:=hown1.from
   clear k1 hown1 hB1 hb2 hb12
   go_loopw [7] (λrv wr=>PB x y n w w.heap.size j d R q rv wr) (λrv wr=>wQ wr rv)
   case atStart=>exact⟨0,_,hr2,(hf2 _ hown1f).mono hB.size,hownq,hB2,by omega,by omega⟩
   case round=>
    obtain⟨t,R2,hr3,hfr3,hown3,hB3,hv3,ht⟩:=hrel;have Hv3:=zdB hv3;clear hv3;clear hr2 hownq hB2 hbs;have hR2l:(ae 10 R2).length<=(ae 10 y).length+1:=by
     have h1:=aD (B:=10) (by decide) (show R2<=d+10*R by have:=Hv3.out;omega);have h2:=nK (B:=10) (by decide) hd hRy;omega
    have hb3:=Hb.out.below (hB3.mono (za0 _));by_cases hge:y<=R2
    ·have hcmp:=yJ hge;have Ht:=zdB (Ep Hv3.out hge hd hRy);go_wp2_with (first|(go_at_call 277;refine(dN R2 y _ _ _ hr3 hb3).mono ?_;rintro e w4 ⟨rfl,hb4⟩)|(go_at_call 282;refine(gH R2 y hge _ _ _ (hr3.below hb4) (hb3.below hb4) (by omega)).mono ?_;rintro e w5 ⟨v5,rfl,hr5,hf5,hb5⟩;have k3:=((hown3.belowTo hb4).belowTo hb5).cell j (by rw[zci,Hql.out];omega);have k4:=((hown3.belowTo hb4).belowTo hb5).free j;rw[zcj] at k3));have ho5:=(hown3.belowTo hb4).belowTo hb5;have hB5:Below w.heap.size w w5:=(hB3.trans (hb4.mono hB3.size)).trans (hb5.mono (zac hB3.size hb4.size));have hr6:Rd am (w5.setCell ⟨w.heap.size,j,none⟩ (.int .i64 ((t:Int)+1))) v5 (ae 10 (R2 - y)):=hr5.setCell hf5 (by have:=hown3.row.2.2.1;have:=hb4.size;simp;omega) _
     go_roundw
     case rel=>
      refine⟨t+1,R2 - y,hr6,hf5.mono (zac hB3.size hb4.size), ?_,hB5.setCell (za0 _) _,G7 Hv3.out hge,by have:=Ht.out;omega⟩;have h7:=ho5.set j (by rw[zci,Hql.out];omega) (t+1) (u:= .int .i64 ((t:Int)+1)) (int_eq (by omega));rwa[List.set_set] at h7
     case measure=>rw[lU hr6,lU hr3];omega
    ·have hcmp:=yK (show R2<y by omega);go_wp2_with (go_at_call 277;refine(dN R2 y _ _ _ hr3 hb3).mono ?_;rintro e w4 ⟨rfl,hb4⟩)
     go_roundw
     case rel=>
      refine⟨j,R2,_,by go_num,hr3.below hb4,hfr3,hown3.belowTo hb4,hB3.trans (hb4.mono hB3.size),Hinv.out.step (by rw[Hn.out];omega) Ed.out Hv3.out (by omega) (by omega),by omega⟩
     case measure=>simp[intOf]
theorem G8:(prog.info? 5).map (λi=>(i.zero,i.size,i.bytes))=some (some (.int .u8 0),1,1):=by kernel_rfl
theorem NS {ops:zdO} {rest:List Oper} {o:Oper} {a:Act} {Q:zdN} {l:List UInt8} (N:o.guard=none) (s x:Operand)
 (ho:o.op= .call {callee:= .builtin .append,args:= #[s,x],argTypes:= #[48,48]}) (hs:a.eval s=v) (J:OwnL uw 5 w B v l) (b:Nat) (c:Nat) (u:Value)
 (hx:a.eval x= .slice (some ⟨b,0,none⟩) 1 c) (hc:w.cell? ⟨b,0,none⟩=some u) (y:UInt8) (hu:u=uw y) (H:l.length+1<=1099511627776) (hB:B<=w.heap.size)
 (h: ∀Y w',OwnL uw 5 w' B Y (l++ [y])->Below B w w'->wpList prog ops Q rest (a.put o.dst Y) w'):wpList prog ops Q (o::rest) a w:=
 kZ N s x 48 ho (.int .u8 0) 1 underlying48 G8 rfl GO hs J ⟨b,0,none⟩ c u hx hc y hu H (by decide) hB h
theorem G9 (w:World) {l:List UInt8} (h:Rd uw w v l):(Go.convert 48 9 v).run prog w= .ok (.string ⟨l.toArray⟩) w:=
 AA w 48 9 5 underlying48 underlying5 underlying9 h
def chr (d:Nat):UInt8:=UInt8.ofNat (48+d)
theorem KF {neg:Bool} (h:x≠0):ofI (sgn neg x)=⟨((if neg then [45] else [])++((ae 10 x).reverse.map chr)).toArray⟩:=by
 apply gT;rw[fY];have e:Lib.decDigits x=(ae 10 x).reverse.map chr:=by rw[aL,if_neg h];rfl
 cases neg with
 |true=>rw[sgn,if_pos rfl,kH (by omega),show (-(x:Int)).natAbs=x by omega,e];rfl
 |false=>rw[sgn,if_neg (by decide),dX (by omega),show ((x:Int)).natAbs=x by omega,e];rfl
theorem yL (l:zdH) (k:Nat) (h:k<l.length):(l.reverse.take (k+1)).map chr=(l.reverse.take k).map chr++ [chr (l[l.length - 1 - k])]:=by
 rw[zc0,zdi h,zaa (by omega)];simp
theorem dE (neg:Bool) (x:Nat) (v:Value) (w:World) (hv:Rd am w v (ae 10 x)) (hx:(ae 10 x).length<=1000):
 Calls prog 210 #[.bool neg,v] w λe w'=>e= .returned (.tuple #[.string (ofI (sgn neg x)), .bool (decide (x<BIG))])/\Below w.heap.size w w':=by
 by_cases h0:x=0
 ·subst h0;obtain⟨a,c,rfl,hc,hc2,hcell⟩:=hv.open';rw[aF] at hcell hc ⊢;simp only[za9] at hcell hc ⊢;have e1:ofI (sgn neg 0)=⟨#[48]⟩:=by cases neg<;>decide+kernel
  have e2:decide (0<BIG)=true:=by decide+kernel
  rw[e1,e2];clear hcell hv hx e1 e2;go_enter func210,ntmps210;go_wp2
  go_ret2
  exact⟨rfl,zdC _ _⟩
 ·obtain⟨a,c,rfl,hc,hc2,hcell⟩:=hv.open';have Hc:=zdB hcell;clear hcell;have hnil:ae 10 x≠ []:=λe=>h0 ((aZ (by decide)).1 e);have e3:=ai (B:=10) (by decide) x 200;obtain⟨n,hn⟩: ∃n,(ae 10 x).length=n:=⟨_,rfl⟩;have hn0:0<n:=by rw[<-hn];exact zbo.2 hnil
  have He:Hid (decide (x<BIG)=decide (n<=200)):=by
   show decide (x<BIG)=decide (n<=200);rw[<-hn];unfold BIG;rw[zdz];exact e3.symm
  have Hs:=zdB (KF (neg:=neg) h0);have Hn:=zdB hn;rw[hn] at hc hx ⊢;clear hn e3 hnil h0 hv;have hc0:((n:Int)==0)=false:=by rw[zdw];omega
  have key: ∀(pre:List UInt8) (v0:Value) (w0:World) (j:Nat),pre.length<=1->OwnL uw 5 w0 w.heap.size v0 (pre++((ae 10 x).reverse.take (n - j)).map chr)->(pre++((ae 10 x).reverse.take (n - j)).map chr).length<=2000:=by
   intro pre v0 w0 j h1 h2;rw[za3,zaB,zaE];omega
  have Hkey:=zdB key;clear key;cases neg
  ·go_enter func210,ntmps210;go_wp2
   go_loopw [6,7] (λout i wr=> ∃j:Nat,j<=n/\i= .int .i64 ((j:Int) - 1)/\OwnL uw 5 wr w.heap.size out (([]:List UInt8)++((ae 10 x).reverse.take (n - j)).map chr)/\Below w.heap.size w wr) (λ_ i _=>(intOf i+1).toNat)
   case atStart=>exact⟨n,za0 _,rfl,by rw[zaJ];exact OwnL.nil _ _,zdC _ _⟩
   case round=>
    obtain⟨j,hj,rfl,hown,hB⟩:=hrel;have hlen:=Hkey.out [] _ _ j (by decide) hown;cases j with
    |zero=>
     have hcv:=G9 wr hown.rd;rw[zaX,zaI (by rw[zc1,Hn.out];exact za0 _)] at hcv;rw[show (⟨(([]:List UInt8)++(ae 10 x).reverse.map chr).toArray⟩:zdG)=ofI (sgn false x) from Hs.out.symm] at hcv;go_wp2
     go_ret2
     exact⟨yy rfl (by rw[He.out];exact Cq (by omega)),hB⟩
    |succ m=>
     obtain⟨b,off,rfl,hb,hc1⟩:=Hc.out m (by rw[Hn.out];omega);have k1:=(hB.cell (p:=⟨b,off+m,none⟩) hb).trans hc1;obtain⟨d,ed⟩: ∃d,(ae 10 x)[m]'(by rw[Hn.out];omega)=d:=⟨_,rfl⟩;have hd:d<10:=by rw[<-ed];exact aK (by decide) x _ (zas _)
     rw[ed] at k1;have Ed:=zdB ed;clear hc1 ed;have hbs:=hB.size;go_wp2_with (at_builtin;refine NS rfl _ _ rfl rfl (hown.alloc _) wr.heap.size 1 _ rfl (aP _ _ _) (chr d) (int_eq (by simp[chr];omega)) (by omega) (by simp;omega) ?_;intro v' w1 hown1 hB1)
     go_roundw
     case rel=>
      refine⟨m,by omega,by go_num, ?_,((hB.alloc hB.size _).trans hB1)⟩;have e:=yL (ae 10 x) (n - (m+1)) (by rw[Hn.out];omega);rw[show n - (m+1)+1=n - m by omega] at e;rw[e,<-za5];simpa only[Hn.out,show n - 1 - (n - (m+1))=m by omega,Ed.out] using hown1
     case measure=>simp[intOf]
  ·go_enter func210,ntmps210;go_wp2_with (at_builtin;refine NS rfl _ _ rfl rfl ((OwnL.nil w w.heap.size).alloc _) w.heap.size 1 _ rfl (aP _ _ _) 45 (int_eq (by decide)) (by simp) (by simp) ?_;intro v0 w0 hown0 hB0)
   go_loopw [6,7] (λout i wr=> ∃j:Nat,j<=n/\i= .int .i64 ((j:Int) - 1)/\OwnL uw 5 wr w.heap.size out ([45]++((ae 10 x).reverse.take (n - j)).map chr)/\Below w.heap.size w wr) (λ_ i _=>(intOf i+1).toNat)
   case atStart=>exact⟨n,za0 _,rfl,by rw[zaJ];exact hown0,((zdC _ _).alloc (za0 _) _).trans hB0⟩
   case round=>
    obtain⟨j,hj,rfl,hown,hB⟩:=hrel;have hlen:=Hkey.out [45] _ _ j (by decide) hown;cases j with
    |zero=>
     have hcv:=G9 wr hown.rd;rw[zaX,zaI (by rw[zc1,Hn.out];exact za0 _)] at hcv;rw[show (⟨(([45]:List UInt8)++(ae 10 x).reverse.map chr).toArray⟩:zdG)=ofI (sgn true x) from Hs.out.symm] at hcv;go_wp2
     go_ret2
     exact⟨yy rfl (by rw[He.out];exact Cq (by omega)),hB⟩
    |succ m=>
     obtain⟨b,off,rfl,hb,hc1⟩:=Hc.out m (by rw[Hn.out];omega);have k1:=(hB.cell (p:=⟨b,off+m,none⟩) hb).trans hc1;obtain⟨d,ed⟩: ∃d,(ae 10 x)[m]'(by rw[Hn.out];omega)=d:=⟨_,rfl⟩;have hd:d<10:=by rw[<-ed];exact aK (by decide) x _ (zas _)
     rw[ed] at k1;have Ed:=zdB ed;clear hc1 ed;have hbs:=hB.size;go_wp2_with (at_builtin;refine NS rfl _ _ rfl rfl (hown.alloc _) wr.heap.size 1 _ rfl (aP _ _ _) (chr d) (int_eq (by simp[chr];omega)) (by omega) (by simp;omega) ?_;intro v' w1 hown1 hB1)
     go_roundw
     case rel=>
      refine⟨m,by omega,by go_num, ?_,((hB.alloc hB.size _).trans hB1)⟩;have e:=yL (ae 10 x) (n - (m+1)) (by rw[Hn.out];omega);rw[show n - (m+1)+1=n - m by omega] at e;rw[e,<-za5];simpa only[Hn.out,show n - 1 - (n - (m+1))=m by omega,Ed.out] using hown1
     case measure=>simp[intOf]
abbrev vSE (r:SE):Value:= .tuple #[.string r.1, .int .i64 r.2]
variable {n:Int}
theorem at7 (h:n.natAbs<BIG):chkI n=(ofI n,0):=by simp[chkI,h]
theorem KG (h: ¬n.natAbs<BIG):chkI n=(ByteArray.empty,30):=by simp[chkI,h]
theorem bU (neg:Bool) (x:Nat) (v:Value) (w:World) (hv:Rd am w v (ae 10 x)) (hx:(ae 10 x).length<=1000):
 Calls prog 280 #[.bool neg,v] w λe w'=>e= .returned (vSE (chkI (sgn neg x)))/\Below w.heap.size w w':=by
 by_cases h:x<BIG
 ·rw[at7 (by rw[cz];exact h)];have h2:decide (x<BIG)=true:=by simp[h]
  have Hc:=zdB (dE neg x v w hv hx);rw[h2] at Hc;clear h h2 hv hx;go_enter func280,ntmps280;go_wp2_with (go_at_call 210;refine Hc.out.mono ?_;rintro e w1 ⟨rfl,hb⟩)
  go_ret2
  exact⟨rfl,hb⟩
 ·rw[KG (by rw[cz];exact h)];have h2:decide (x<BIG)=false:=by simp[h]
  have Hc:=zdB (dE neg x v w hv hx);rw[h2] at Hc;clear h h2 hv hx;go_enter func280,ntmps280;go_wp2_with (go_at_call 210;refine Hc.out.mono ?_;rintro e w1 ⟨rfl,hb⟩)
  go_ret2
  exact⟨rfl,hb⟩
theorem fp (h:x<10^k):(ae 10 x).length<=k:=(ai (by decide) x k).2 h
theorem KH (h1:(ae 10 x).length<=200) (h2:(ae 10 y).length<=200):(ae 10 (x+y)).length<=1000:=by
 have h3:=(ai (B:=10) (by decide) x 200).1 h1;have h4:=(ai (B:=10) (by decide) y 200).1 h2;have h5:=fp (x:=x+y) (k:=201) (by rw[zaw];omega);omega
theorem yM (h1:(ae 10 x).length<=200):(ae 10 (x - y)).length<=1000:=by
 have:=aD (B:=10) (by decide) (Nat.sub_le x y);omega
theorem tg (x:Bool) (a:Nat) (va:Value) (y:Bool) (b:Nat) (vb:Value) (w:World) (ha:Rd am w va (ae 10 a)) (hb:Rd am w vb (ae 10 b)) (hx:(ae 10 a).length<=200) (hy:(ae 10 b).length<=200):
 Calls prog 278 #[.bool x,va, .bool y,vb] w λe w'=>e= .returned (vSE (chkI (sgn x a+sgn y b)))/\Below w.heap.size w w':=by
 have same: ∀z:Bool,x=z->y=z->Calls prog 278 #[.bool z,va, .bool z,vb] w λe w'=>e= .returned (vSE (chkI (sgn x a+sgn y b)))/\Below w.heap.size w w':=by
  rintro z rfl h;have e1:sgn x a+sgn y b=sgn x (a+b):=by rw[h];cases x<;>simp[sgn]<;>omega
  rw[e1];clear h e1;cases x
  all_goals
   go_enter func278,ntmps278;go_wp2_with (first|(go_at_call 281;refine(qq a b _ _ _ ha hb (by omega) (by omega)).mono ?_;rintro e w1 ⟨v1,rfl,hr1,hf1,hb1⟩)|(go_at_call 280;refine(bU _ _ _ _ hr1 (KH hx hy)).mono ?_;rintro e w2 ⟨rfl,hb2⟩))
   go_ret2
   exact⟨rfl,hb1.trans (hb2.mono hb1.size)⟩
 have other: ∀z u:Bool,x=z->y=u->z≠u->Calls prog 278 #[.bool z,va, .bool u,vb] w λe w'=>e= .returned (vSE (chkI (sgn x a+sgn y b)))/\Below w.heap.size w w':=by
  rintro z u rfl rfl hne;by_cases hge:b<=a
  ·have e1:sgn x a+sgn y b=sgn x (a - b):=by cases x<;>cases y<;>simp[sgn] at hne ⊢ <;>omega
   rw[e1];have hcmp:=yJ hge;clear e1;cases x<;>cases y<;>first|exact absurd rfl hne|skip
   all_goals
    clear hne;go_enter func278,ntmps278;go_wp2_with (first|(go_at_call 277;refine(dN a b _ _ _ ha hb).mono ?_;rintro e w0 ⟨rfl,hb0⟩)|(go_at_call 282;refine(gH a b hge _ _ _ (ha.below hb0) (hb.below hb0) (by omega)).mono ?_;rintro e w1 ⟨v1,rfl,hr1,hf1,hb1⟩)|(go_at_call 280;refine(bU _ _ _ _ hr1 (yM hx)).mono ?_;rintro e w2 ⟨rfl,hb2⟩))
    go_ret2
    exact⟨rfl,(hb0.trans (hb1.mono hb0.size)).trans (hb2.mono (zac hb0.size hb1.size))⟩
  ·have e1:sgn x a+sgn y b=sgn y (b - a):=by cases x<;>cases y<;>simp[sgn] at hne ⊢ <;>omega
   rw[e1];have hcmp:=yK (show a<b by omega);clear e1;cases x<;>cases y<;>first|exact absurd rfl hne|skip
   all_goals
    clear hne;go_enter func278,ntmps278;go_wp2_with (first|(go_at_call 277;refine(dN a b _ _ _ ha hb).mono ?_;rintro e w0 ⟨rfl,hb0⟩)|(go_at_call 282;refine(gH b a (by omega) _ _ _ (hb.below hb0) (ha.below hb0) (by omega)).mono ?_;rintro e w1 ⟨v1,rfl,hr1,hf1,hb1⟩)|(go_at_call 280;refine(bU _ _ _ _ hr1 (yM hy)).mono ?_;rintro e w2 ⟨rfl,hb2⟩))
    go_ret2
    exact⟨rfl,(hb0.trans (hb1.mono hb0.size)).trans (hb2.mono (zac hb0.size hb1.size))⟩
 by_cases h:x=y
 ·have:=same x rfl h.symm;rwa[<-h] at this ⊢
 ·exact other x y rfl rfl h
theorem aJ (s:zdG) (w:World) (H:vld s.data.toList=true):
 Calls prog 276 #[.string s] w λe w'=> ∃v,e= .returned (.tuple #[.bool (bf s.data.toList),v])/\Rd am w' v (ae 10 (nS s).natAbs)/\From w.heap.size v/\Below w.heap.size w w':=uA s w H
theorem AP (a b:zdG) (w:World) (hsa:a.size<=maxLen) (hsb:b.size<=maxLen):
 Calls prog 227 #[.string a, .string b] w λe w'=>e= .returned (vSE (jb a b))/\Below w.heap.size w w':=by
 by_cases ha:vS a=true
 ·have hva:vld a.data.toList=true:=ha;by_cases hb:vS b=true
  ·have hvb:vld b.data.toList=true:=hb;have e1:jb a b=chkI (sgn (bf a.data.toList) (nS a).natAbs+sgn (bf b.data.toList) (nS b).natAbs):=by
    rw[<-cD,<-cD];simp[jb,ha,hb]
   rw[e1];have hla:=aM (br ha);have hlb:=aM (br hb);clear e1 ha hb;go_enter func227,ntmps227;go_wp2_with (first|(go_at_call 205;refine(au _ _ (by assumption)).mono ?_;rintro e w0 ⟨rfl,rfl⟩)|(go_at_call 276;(with_reducible refine(aJ a _ hva).mono ?_);rintro e w1 ⟨v1,rfl,hr1,hf1,hb1⟩)|(go_at_call 276;(with_reducible refine(aJ b _ hvb).mono ?_);rintro e w2 ⟨v2,rfl,hr2,hf2,hb2⟩)|(go_at_call 278;refine(tg _ _ _ _ _ _ _ (hr1.below hb2) hr2 hla hlb).mono ?_;rintro e w3 ⟨rfl,hb3⟩))
   go_ret2
   exact⟨rfl,(hb1.trans (hb2.mono hb1.size)).trans (hb3.mono (zac hb1.size hb2.size))⟩
  ·have hvb:vld b.data.toList=false:=by simpa [vS] using hb
   have e1:jb a b=(ByteArray.empty,30):=by simp[jb,hb]
   rw[e1];clear e1 ha hb;go_enter func227,ntmps227;go_wp2_with (go_at_call 205;refine(au _ _ (by assumption)).mono ?_;rintro e w0 ⟨rfl,rfl⟩)
   go_ret2
   exact⟨rfl,zdC _ _⟩
 ·have hva:vld a.data.toList=false:=by simpa [vS] using ha
  have e1:jb a b=(ByteArray.empty,30):=by simp[jb,ha]
  rw[e1];clear e1 ha;go_enter func227,ntmps227;go_wp2_with (go_at_call 205;refine(au _ _ (by assumption)).mono ?_;rintro e w0 ⟨rfl,rfl⟩)
  go_ret2
  exact⟨rfl,zdC _ _⟩
theorem KI (x:Bool) (n:Nat):sgn (!x) n= -sgn x n:=by cases x<;>simp[sgn]
theorem AQ (a b:zdG) (w:World) (hsa:a.size<=maxLen) (hsb:b.size<=maxLen):
 Calls prog 207 #[.string a, .string b] w λe w'=>e= .returned (vSE (fA a b))/\Below w.heap.size w w':=by
 by_cases ha:vS a=true
 ·have hva:vld a.data.toList=true:=ha;by_cases hb:vS b=true
  ·have hvb:vld b.data.toList=true:=hb;have e1:fA a b=chkI (sgn (bf a.data.toList) (nS a).natAbs+sgn (!(bf b.data.toList)) (nS b).natAbs):=by
    rw[KI,<-cD,<-cD,<-Int.sub_eq_add_neg];simp[fA,ha,hb]
   rw[e1];have hla:=aM (br ha);have hlb:=aM (br hb);clear e1 ha hb;go_enter func207,ntmps207;go_wp2_with (first|(go_at_call 205;refine(au _ _ (by assumption)).mono ?_;rintro e w0 ⟨rfl,rfl⟩)|(go_at_call 276;(with_reducible refine(aJ a _ hva).mono ?_);rintro e w1 ⟨v1,rfl,hr1,hf1,hb1⟩)|(go_at_call 276;(with_reducible refine(aJ b _ hvb).mono ?_);rintro e w2 ⟨v2,rfl,hr2,hf2,hb2⟩)|(go_at_call 278;refine(tg _ _ _ _ _ _ _ (hr1.below hb2) hr2 hla hlb).mono ?_;rintro e w3 ⟨rfl,hb3⟩))
   go_ret2
   exact⟨rfl,(hb1.trans (hb2.mono hb1.size)).trans (hb3.mono (zac hb1.size hb2.size))⟩
  ·have hvb:vld b.data.toList=false:=by simpa [vS] using hb
   have e1:fA a b=(ByteArray.empty,30):=by simp[fA,hb]
   rw[e1];clear e1 ha hb;go_enter func207,ntmps207;go_wp2_with (go_at_call 205;refine(au _ _ (by assumption)).mono ?_;rintro e w0 ⟨rfl,rfl⟩)
   go_ret2
   exact⟨rfl,zdC _ _⟩
 ·have hva:vld a.data.toList=false:=by simpa [vS] using ha
  have e1:fA a b=(ByteArray.empty,30):=by simp[fA,ha]
  rw[e1];clear e1 ha;go_enter func207,ntmps207;go_wp2_with (go_at_call 205;refine(au _ _ (by assumption)).mono ?_;rintro e w0 ⟨rfl,rfl⟩)
  go_ret2
  exact⟨rfl,zdC _ _⟩
theorem Hh (x y:Bool) (m n:Nat):sgn (x !=y) (m*n)=sgn x m*sgn y n:=by cases x<;>cases y<;>simp[sgn,Int.neg_mul,zbM]
theorem KJ (h3:x<10^k) (h4:y<10^k):(ae 10 (x*y)).length<=k+k:=fp (by rw[zbv];exact zbN h3 h4)
theorem Hj (h1:(ae 10 x).length<=200) (h2:(ae 10 y).length<=200):(ae 10 (x*y)).length<=1000:=by
 have h3:=(ai (B:=10) (by decide) x 200).1 h1;have h4:=(ai (B:=10) (by decide) y 200).1 h2;have h5:=KJ h3 h4;omega
theorem AR (a b:zdG) (w:World) (hsa:a.size<=maxLen) (hsb:b.size<=maxLen):
 Calls prog 226 #[.string a, .string b] w λe w'=>e= .returned (vSE (bM a b))/\Below w.heap.size w w':=by
 by_cases ha:vS a=true
 ·have hva:vld a.data.toList=true:=ha;by_cases hb:vS b=true
  ·have hvb:vld b.data.toList=true:=hb;have e1:bM a b=chkI (sgn ((bf a.data.toList) !=(bf b.data.toList)) ((nS a).natAbs*(nS b).natAbs)):=by
    rw[Hh,<-cD,<-cD];simp[bM,ha,hb]
   rw[e1];have hla:=aM (br ha);have hlb:=aM (br hb);clear e1 ha hb;go_enter func226,ntmps226;go_wp2_with (first|(go_at_call 205;refine(au _ _ (by assumption)).mono ?_;rintro e w0 ⟨rfl,rfl⟩)|(go_at_call 276;(with_reducible refine(aJ a _ hva).mono ?_);rintro e w1 ⟨v1,rfl,hr1,hf1,hb1⟩)|(go_at_call 276;(with_reducible refine(aJ b _ hvb).mono ?_);rintro e w2 ⟨v2,rfl,hr2,hf2,hb2⟩)|(go_at_call 293;refine(wP _ _ _ _ _ (hr1.below hb2) hr2 (by omega) (by omega)).mono ?_;rintro e w3 ⟨v3,rfl,hr3,hf3,hb3⟩)|(go_at_call 280;refine(bU _ _ _ _ hr3 (Hj hla hlb)).mono ?_;rintro e w4 ⟨rfl,hb4⟩))
   go_ret2
   exact⟨rfl,((hb1.trans (hb2.mono hb1.size)).trans (hb3.mono (zac hb1.size hb2.size))).trans (hb4.mono (zac hb1.size (zac hb2.size hb3.size)))⟩
  ·have hvb:vld b.data.toList=false:=by simpa [vS] using hb
   have e1:bM a b=(ByteArray.empty,30):=by simp[bM,hb]
   rw[e1];clear e1 ha hb;go_enter func226,ntmps226;go_wp2_with (go_at_call 205;refine(au _ _ (by assumption)).mono ?_;rintro e w0 ⟨rfl,rfl⟩)
   go_ret2
   exact⟨rfl,zdC _ _⟩
 ·have hva:vld a.data.toList=false:=by simpa [vS] using ha
  have e1:bM a b=(ByteArray.empty,30):=by simp[bM,ha]
  rw[e1];clear e1 ha;go_enter func226,ntmps226;go_wp2_with (go_at_call 205;refine(au _ _ (by assumption)).mono ?_;rintro e w0 ⟨rfl,rfl⟩)
  go_ret2
  exact⟨rfl,zdC _ _⟩
theorem Cw {s:zdG} (h:vS s=true):bf s.data.toList=true↔nS s<0:=by
 have h1:=oW (nS s);rw[show Lib.itoa (nS s)=s.data.toList from ru h] at h1;simpa [bf] using h1
theorem adj {x y:Int} (H:x<0) (J:0<=y):VQ x y= -1/\VQ y x=1:=by
 unfold VQ;constructor
 ·rw[if_pos (by omega)]
 ·rw[if_neg (by omega),if_pos (by omega)]
theorem Q2 (a b:zdG) (w:World) (hva:vld a.data.toList=true) (hvb:vld b.data.toList=true) (hsa:a.size<=maxLen) (hsb:b.size<=maxLen) (hx:bf a.data.toList=true) (hy:bf b.data.toList=false):
 Calls prog 206 #[.string a, .string b] w λe w'=>e= .returned (.int .i64 (-1))/\Below w.heap.size w w':=by
 have hda:=aJ a;have hdb:=aJ b;rw[hx] at hda;rw[hy] at hdb;have Hda:=zdB hda;have Hdb:=zdB hdb;clear hda hdb hx hy;go_enter func206,ntmps206;go_wp2_with (first|(go_at_call 205;refine(au _ _ (by assumption)).mono ?_;rintro e w0 ⟨rfl,rfl⟩)|(go_at_call 276;(with_reducible refine(Hda.out _ hva).mono ?_);rintro e w1 ⟨v1,rfl,hr1,hf1,hb1⟩)|(go_at_call 276;(with_reducible refine(Hdb.out _ hvb).mono ?_);rintro e w2 ⟨v2,rfl,hr2,hf2,hb2⟩));go_ret;exact⟨rfl,hb1.trans (hb2.mono hb1.size)⟩
theorem aHb (a b:zdG) (w:World) (hva:vld a.data.toList=true) (hvb:vld b.data.toList=true) (hsa:a.size<=maxLen) (hsb:b.size<=maxLen) (hx:bf a.data.toList=false) (hy:bf b.data.toList=true):
 Calls prog 206 #[.string a, .string b] w λe w'=>e= .returned (.int .i64 (1))/\Below w.heap.size w w':=by
 have hda:=aJ a;have hdb:=aJ b;rw[hx] at hda;rw[hy] at hdb;have Hda:=zdB hda;have Hdb:=zdB hdb;clear hda hdb hx hy;go_enter func206,ntmps206;go_wp2_with (first|(go_at_call 205;refine(au _ _ (by assumption)).mono ?_;rintro e w0 ⟨rfl,rfl⟩)|(go_at_call 276;(with_reducible refine(Hda.out _ hva).mono ?_);rintro e w1 ⟨v1,rfl,hr1,hf1,hb1⟩)|(go_at_call 276;(with_reducible refine(Hdb.out _ hvb).mono ?_);rintro e w2 ⟨v2,rfl,hr2,hf2,hb2⟩));go_ret;exact⟨rfl,hb1.trans (hb2.mono hb1.size)⟩
theorem mj (a b:zdG) (w:World) (hva:vld a.data.toList=true) (hvb:vld b.data.toList=true) (hsa:a.size<=maxLen) (hsb:b.size<=maxLen) (hx:bf a.data.toList=true) (hy:bf b.data.toList=true):
 Calls prog 206 #[.string a, .string b] w λe w'=>e= .returned (.int .i64 (dB (nS b).natAbs (nS a).natAbs))/\Below w.heap.size w w':=by
 have hda:=aJ a;have hdb:=aJ b;rw[hx] at hda;rw[hy] at hdb;have Hda:=zdB hda;have Hdb:=zdB hdb;clear hda hdb hx hy;go_enter func206,ntmps206;go_wp2_with (first|(go_at_call 205;refine(au _ _ (by assumption)).mono ?_;rintro e w0 ⟨rfl,rfl⟩)|(go_at_call 276;(with_reducible refine(Hda.out _ hva).mono ?_);rintro e w1 ⟨v1,rfl,hr1,hf1,hb1⟩)|(go_at_call 276;(with_reducible refine(Hdb.out _ hvb).mono ?_);rintro e w2 ⟨v2,rfl,hr2,hf2,hb2⟩)|(go_at_call 277;refine(dN _ _ _ _ _ hr2 (hr1.below hb2)).mono ?_;rintro e w3 ⟨rfl,hb3⟩));go_ret;exact⟨rfl,(hb1.trans (hb2.mono hb1.size)).trans (hb3.mono (zac hb1.size hb2.size))⟩
theorem ky (a b:zdG) (w:World) (hva:vld a.data.toList=true) (hvb:vld b.data.toList=true) (hsa:a.size<=maxLen) (hsb:b.size<=maxLen) (hx:bf a.data.toList=false) (hy:bf b.data.toList=false):
 Calls prog 206 #[.string a, .string b] w λe w'=>e= .returned (.int .i64 (dB (nS a).natAbs (nS b).natAbs))/\Below w.heap.size w w':=by
 have hda:=aJ a;have hdb:=aJ b;rw[hx] at hda;rw[hy] at hdb;have Hda:=zdB hda;have Hdb:=zdB hdb;clear hda hdb hx hy;go_enter func206,ntmps206;go_wp2_with (first|(go_at_call 205;refine(au _ _ (by assumption)).mono ?_;rintro e w0 ⟨rfl,rfl⟩)|(go_at_call 276;(with_reducible refine(Hda.out _ hva).mono ?_);rintro e w1 ⟨v1,rfl,hr1,hf1,hb1⟩)|(go_at_call 276;(with_reducible refine(Hdb.out _ hvb).mono ?_);rintro e w2 ⟨v2,rfl,hr2,hf2,hb2⟩)|(go_at_call 277;refine(dN _ _ _ _ _ (hr1.below hb2) hr2).mono ?_;rintro e w3 ⟨rfl,hb3⟩));go_ret;exact⟨rfl,(hb1.trans (hb2.mono hb1.size)).trans (hb3.mono (zac hb1.size hb2.size))⟩
theorem Yv (a b:zdG) (w:World) (hsa:a.size<=maxLen) (hsb:b.size<=maxLen):
 Calls prog 206 #[.string a, .string b] w λe w'=>e= .returned (.int .i64 (dw a b))/\Below w.heap.size w w':=by
 by_cases ha:vS a=true
 ·have hva:vld a.data.toList=true:=ha;by_cases hb:vS b=true
  ·have hvb:vld b.data.toList=true:=hb;have e1:dw a b=VQ (nS a) (nS b):=by simp[dw,ha,hb]
   rw[e1];have hna:=Cw ha;have hnb:=Cw hb;have e2: ∃r,VQ (nS a) (nS b)=r/\(bf a.data.toList=true->bf b.data.toList=false->r= -1)/\(bf a.data.toList=false->bf b.data.toList=true->r=1)/\
    (bf a.data.toList=true->bf b.data.toList=true->r=dB (nS b).natAbs (nS a).natAbs)/\(bf a.data.toList=false->bf b.data.toList=false->r=dB (nS a).natAbs (nS b).natAbs):=by
    refine⟨_,rfl, ?_, ?_, ?_, ?_⟩
    ·intro h1 h2;have: ¬nS b<0:=λh=>by rw[hnb.2 h] at h2;cases h2
     exact(adj (hna.1 h1) (by omega)).1
    ·intro h1 h2;have: ¬nS a<0:=λh=>by rw[hna.2 h] at h1;cases h1
     exact(adj (hnb.1 h2) (by omega)).2
    ·intro h1 h2;rw[<-pW];have:=hna.1 h1;have:=hnb.1 h2
     congr 1<;>omega
    ·intro h1 h2;have: ¬nS b<0:=λh=>by rw[hnb.2 h] at h2;cases h2
     have: ¬nS a<0:=λh=>by rw[hna.2 h] at h1;cases h1
     rw[<-iM]
     congr 1<;>omega
   obtain⟨r,hr,g1,g2,g3,g4⟩:=e2;rw[hr];clear e1 ha hb hr hna hnb;cases hx:bf a.data.toList<;>cases hy:bf b.data.toList
   ·rw[g4 hx hy];exact ky a b w hva hvb hsa hsb hx hy
   ·rw[g2 hx hy];exact aHb a b w hva hvb hsa hsb hx hy
   ·rw[g1 hx hy];exact Q2 a b w hva hvb hsa hsb hx hy
   ·rw[g3 hx hy];exact mj a b w hva hvb hsa hsb hx hy
  ·have hvb:vld b.data.toList=false:=by simpa [vS] using hb
   have e1:dw a b=0:=by simp[dw,hb]
   rw[e1];clear e1 ha hb;go_enter func206,ntmps206;go_wp2_with (go_at_call 205;refine(au _ _ (by assumption)).mono ?_;rintro e w0 ⟨rfl,rfl⟩);go_ret;exact⟨rfl,zdC _ _⟩
 ·have hva:vld a.data.toList=false:=by simpa [vS] using ha
  have e1:dw a b=0:=by simp[dw,ha]
  rw[e1];clear e1 ha;go_enter func206,ntmps206;go_wp2_with (go_at_call 205;refine(au _ _ (by assumption)).mono ?_;rintro e w0 ⟨rfl,rfl⟩);go_ret;exact⟨rfl,zdC _ _⟩
theorem iY (x y:Nat) (J:0<y) (va N:Value) (w:World) (ha:Rd am w va (ae 10 x)) (hb:Rd am w N (ae 10 y)) (hx:(ae 10 x).length<=900) (hy:(ae 10 y).length<=900):
 Calls prog 279 #[va,N] w λe w'=> ∃H Y c2,e= .returned (.tuple #[H, .slice Y (ae 10 (x%y)).length c2])/\Rd am w' H (ae 10 (x / y))/\Rd am w' (.slice Y (ae 10 (x%y)).length c2) (ae 10 (x%y))/\Below w.heap.size w w':=by
 refine(tf x y J va N w ha hb hx hy).mono ?_;rintro e w' ⟨H,v2,rfl,h1,h2,_,_,h3⟩;obtain⟨a,c,rfl,_⟩:=h2.open';exact⟨H,a,c,rfl,h1,h2,h3⟩
theorem yN:ae 10 1= [1]:=gW (by decide) (by decide) (by decide)
theorem lV (h:vS b=true):(b.toList== [48])=decide (nS b=0):=by
 rw[cL];by_cases h0:nS b=0
 ·have:b.data.toList= [48]:=by
   have:=ru h;rw[show toI b.data.toList=0 from h0] at this;rw[<-this];decide+kernel
  simp[this,h0]
 ·have:b.data.toList≠ [48]:=by
   intro e;apply h0;unfold nS;rw[e];decide
  simp[this,h0]
theorem lW (H:x<BIG):x / y<BIG:=zaS (zaN x y) H
theorem lq (J:x<BIG) (H:x%y≠0):x / y+1<BIG:=by
 have h1:=kJ;have h2:=zcM x y;have h3:=zaN x y;have h6:=zX;generalize BIG=K at*
 by_cases h4:x / y=0
 ·omega
 ·by_cases h5:y<=1
  ·have:x%y=0\/y=0:=by
    rcases(show y=0\/y=1 by omega) with rfl|rfl
    ·exact .inr rfl
    ·exact .inl (zch x)
   rcases this with h|rfl
   ·exact absurd h H
   ·simp at h4
  ·have:2*(x / y)<=y*(x / y):=zbl _ (by omega);omega
theorem qO (a b:zdG) (w:World) (ha:vS a=true) (hb:vS b=true) (hb0:nS b≠0) (hx:bf a.data.toList=false):
 Calls prog 209 #[.string a, .string b] w λe w'=>e= .returned (.tuple #[.string (ofI (sgn (bf b.data.toList) ((nS a).natAbs / (nS b).natAbs))), .string (ofI ((((nS a).natAbs%(nS b).natAbs:Nat):Int))), .int .i64 0])/\Below w.heap.size w w':=by
 have hn0:0<(nS b).natAbs:=by omega
 have hva:vld a.data.toList=true:=ha;have hvb:vld b.data.toList=true:=hb;have hsa:a.size<=maxLen:=zac (dp ha) (by decide);have hsb:b.size<=maxLen:=zac (dp hb) (by decide);have hla:=aM (br ha);have hlb:=aM (br hb);have hz:(b.toList== [48])=false:=by rw[lV hb];simp[hb0]
 have hlr:=aD (B:=10) (by decide) (zbs (zar (nS a).natAbs hn0));have hmn:=zar (nS a).natAbs hn0;have hlr2:=aD (B:=10) (by decide) (show ((nS a).natAbs%(nS b).natAbs)<=(nS b).natAbs by omega);have hlq:=aD (B:=10) (by decide) (zaN (nS a).natAbs (nS b).natAbs);have hlq2:=aM (lW (y:=(nS b).natAbs) (br ha));have HQ:=zdB (at7 (n:=sgn (bf b.data.toList) ((nS a).natAbs / (nS b).natAbs)) (by rw[cz];exact(lW (br ha))));have hda:=aJ a;rw[hx] at hda;have Hda:=zdB hda;have Hmn:=zdB hmn;clear hda hx ha hb hb0;go_enter func209,ntmps209
 go_wp2_with (first
  |(go_at_call 205;refine(au _ _ (by assumption)).mono ?_;rintro e w0 ⟨rfl,rfl⟩)
  |(go_at_call 276;(with_reducible refine(Hda.out _ hva).mono ?_);rintro e w1 ⟨v1,rfl,hr1,hf1,hb1⟩)
  |(go_at_call 276;(with_reducible refine(aJ b _ hvb).mono ?_);rintro e w2 ⟨v2,rfl,hr2,hf2,hb2⟩)
  |(go_at_call 279;refine(iY _ _ hn0 _ _ _ (hr1.below hb2) hr2 (by omega) (by omega)).mono ?_;rintro e w3 ⟨v3,a3,c3,rfl,hq3,hr3,hb3⟩)
  |(go_at_call 280;refine(bU _ _ _ _ hq3 (by omega)).mono ?_;rw[HQ.out];rintro e w6 ⟨rfl,hb6⟩)
  |(go_at_call 210;refine(dE false _ _ _ (hr3.below hb6) (by omega)).mono ?_;rintro e w7 ⟨rfl,hb7⟩))
 go_ret3
 have s1:=hb1.size;have s2:=hb2.size;have s3:=hb3.size;have s6:=hb6.size;exact⟨rfl,((((hb1.trans (hb2.mono hb1.size)).trans (hb3.mono (by omega))).trans (hb6.mono (by omega))).trans (hb7.mono (by omega)))⟩
theorem qP (a b:zdG) (w:World) (ha:vS a=true) (hb:vS b=true) (hb0:nS b≠0) (hx:bf a.data.toList=true) (hr0:(nS a).natAbs%(nS b).natAbs=0):
 Calls prog 209 #[.string a, .string b] w λe w'=>e= .returned (.tuple #[.string (ofI (sgn (!bf b.data.toList) ((nS a).natAbs / (nS b).natAbs))), .string (ofI ((((nS a).natAbs%(nS b).natAbs:Nat):Int))), .int .i64 0])/\Below w.heap.size w w':=by
 have hn0:0<(nS b).natAbs:=by omega
 have hva:vld a.data.toList=true:=ha;have hvb:vld b.data.toList=true:=hb;have hsa:a.size<=maxLen:=zac (dp ha) (by decide);have hsb:b.size<=maxLen:=zac (dp hb) (by decide);have hla:=aM (br ha);have hlb:=aM (br hb);have hz:(b.toList== [48])=false:=by rw[lV hb];simp[hb0]
 have hlr:=aD (B:=10) (by decide) (zbs (zar (nS a).natAbs hn0));have hmn:=zar (nS a).natAbs hn0;have hlr2:=aD (B:=10) (by decide) (show ((nS a).natAbs%(nS b).natAbs)<=(nS b).natAbs by omega);have hlq:=aD (B:=10) (by decide) (zaN (nS a).natAbs (nS b).natAbs);have hlq2:=aM (lW (y:=(nS b).natAbs) (br ha));have HQ:=zdB (at7 (n:=sgn (!bf b.data.toList) ((nS a).natAbs / (nS b).natAbs)) (by rw[cz];exact(lW (br ha))));have hl0:(ae 10 ((nS a).natAbs%(nS b).natAbs)).length<=0:=by rw[hr0,aF];simp
 have hda:=aJ a;rw[hx] at hda;have Hda:=zdB hda;have Hmn:=zdB hmn;clear hda hx ha hb hb0 hr0;go_enter func209,ntmps209
 go_wp2_with (first
  |(go_at_call 205;refine(au _ _ (by assumption)).mono ?_;rintro e w0 ⟨rfl,rfl⟩)
  |(go_at_call 276;(with_reducible refine(Hda.out _ hva).mono ?_);rintro e w1 ⟨v1,rfl,hr1,hf1,hb1⟩)
  |(go_at_call 276;(with_reducible refine(aJ b _ hvb).mono ?_);rintro e w2 ⟨v2,rfl,hr2,hf2,hb2⟩)
  |(go_at_call 279;refine(iY _ _ hn0 _ _ _ (hr1.below hb2) hr2 (by omega) (by omega)).mono ?_;rintro e w3 ⟨v3,a3,c3,rfl,hq3,hr3,hb3⟩)
  |(go_at_call 280;refine(bU _ _ _ _ hq3 (by omega)).mono ?_;rw[HQ.out];rintro e w6 ⟨rfl,hb6⟩)
  |(go_at_call 210;refine(dE false _ _ _ (hr3.below hb6) (by omega)).mono ?_;rintro e w7 ⟨rfl,hb7⟩))
 go_ret3
 have s1:=hb1.size;have s2:=hb2.size;have s3:=hb3.size;have s6:=hb6.size;exact⟨rfl,((((hb1.trans (hb2.mono hb1.size)).trans (hb3.mono (by omega))).trans (hb6.mono (by omega))).trans (hb7.mono (by omega)))⟩
theorem tj (a b:zdG) (w:World) (ha:vS a=true) (hb:vS b=true) (hb0:nS b≠0) (hx:bf a.data.toList=true) (hr0:(nS a).natAbs%(nS b).natAbs≠0):
 Calls prog 209 #[.string a, .string b] w λe w'=>e= .returned (.tuple #[.string (ofI (sgn (!bf b.data.toList) ((nS a).natAbs / (nS b).natAbs+1))), .string (ofI ((((nS b).natAbs - (nS a).natAbs%(nS b).natAbs:Nat):Int))), .int .i64 0])/\Below w.heap.size w w':=by
 have hn0:0<(nS b).natAbs:=by omega
 have hva:vld a.data.toList=true:=ha;have hvb:vld b.data.toList=true:=hb;have hsa:a.size<=maxLen:=zac (dp ha) (by decide);have hsb:b.size<=maxLen:=zac (dp hb) (by decide);have hla:=aM (br ha);have hlb:=aM (br hb);have hz:(b.toList== [48])=false:=by rw[lV hb];simp[hb0]
 have hlr:=aD (B:=10) (by decide) (zbs (zar (nS a).natAbs hn0));have hmn:=zar (nS a).natAbs hn0;have hlr2:=aD (B:=10) (by decide) (show ((nS b).natAbs - (nS a).natAbs%(nS b).natAbs)<=(nS b).natAbs by omega);have hlq:=aD (B:=10) (by decide) (zaN (nS a).natAbs (nS b).natAbs);have hlq2:=aM (lq (br ha) hr0);have HQ:=zdB (at7 (n:=sgn (!bf b.data.toList) ((nS a).natAbs / (nS b).natAbs+1)) (by rw[cz];exact(lq (br ha) hr0)));have hl0:0<(ae 10 ((nS a).natAbs%(nS b).natAbs)).length:=zbo.2 (λe=>hr0 ((aZ (by decide)).1 e));have hda:=aJ a;rw[hx] at hda;have Hda:=zdB hda;have Hmn:=zdB hmn;clear hda hx ha hb hb0 hr0;go_enter func209,ntmps209
 go_wp2_with (first
  |(go_at_call 205;refine(au _ _ (by assumption)).mono ?_;rintro e w0 ⟨rfl,rfl⟩)
  |(go_at_call 276;(with_reducible refine(Hda.out _ hva).mono ?_);rintro e w1 ⟨v1,rfl,hr1,hf1,hb1⟩)
  |(go_at_call 276;(with_reducible refine(aJ b _ hvb).mono ?_);rintro e w2 ⟨v2,rfl,hr2,hf2,hb2⟩)
  |(go_at_call 279;refine(iY _ _ hn0 _ _ _ (hr1.below hb2) hr2 (by omega) (by omega)).mono ?_;rintro e w3 ⟨v3,a3,c3,rfl,hq3,hr3,hb3⟩)
  |(go_at_call 281;refine(qq _ 1 _ _ _ (hq3.below ((zdC _ _).alloc (za0 _) _)) (by rw[yN];exact(OwnL.lit1 (e:=3) w3 1 rfl).rd) (by omega) (by rw[yN];decide)).mono ?_;rintro e w4 ⟨v4,rfl,hq4,hf4,hb4⟩;have hb34:Below w3.heap.size w3 w4:=((zdC _ _).alloc (za0 _) _).trans (hb4.mono (by simp)))
  |(go_at_call 282;refine(gH _ _ (by omega) _ _ _ ((hr2.below hb3).below hb34) (hr3.below hb34) (by omega)).mono ?_;rintro e w5 ⟨v5,rfl,hr5,hf5,hb5⟩)
  |(go_at_call 280;refine(bU _ _ _ _ (hq4.below hb5) (by omega)).mono ?_;rw[HQ.out];rintro e w6 ⟨rfl,hb6⟩)
  |(go_at_call 210;refine(dE false _ _ _ (hr5.below hb6) (by omega)).mono ?_;rintro e w7 ⟨rfl,hb7⟩))
 go_ret3
 have s1:=hb1.size;have s2:=hb2.size;have s3:=hb3.size;have s4:=hb34.size;have s5:=hb5.size;have s6:=hb6.size;exact⟨rfl,((((((hb1.trans (hb2.mono hb1.size)).trans (hb3.mono (by omega))).trans (hb34.mono (by omega))).trans (hb5.mono (by omega))).trans (hb6.mono (by omega))).trans (hb7.mono (by omega)))⟩
abbrev QF (r:ByteArray×ByteArray×Int):Value:= .tuple #[.string r.1, .string r.2.1, .int .i64 r.2.2]
theorem wR (h:vS a=false\/vS b=false\/nS b=0):dY a b=(ByteArray.empty,ByteArray.empty,30):=by
 unfold dY;rcases h with h|h|h<;>simp[h]
theorem Ho (H:vS a=true) (J:vS b=true) (h:nS b≠0):dY a b=(ofI (nS a / nS b),ofI (nS a%nS b),0):=by simp[dY,H,J,h]
theorem AT (a b:zdG) (w:World) (hsa:a.size<=maxLen) (hsb:b.size<=maxLen):
 Calls prog 209 #[.string a, .string b] w λe w'=>e= .returned (QF (dY a b))/\Below w.heap.size w w':=by
 by_cases ha:vS a=true
 ·by_cases hb:vS b=true
  ·by_cases h0:nS b=0
   ·rw[wR (.inr (.inr h0))];have hva:vld a.data.toList=true:=ha;have hvb:vld b.data.toList=true:=hb;have hz:(b.toList== [48])=true:=by rw[lV hb];simp[h0]
    clear ha hb h0;go_enter func209,ntmps209;go_wp2_with (go_at_call 205;refine(au _ _ (by assumption)).mono ?_;rintro e w0 ⟨rfl,rfl⟩)
    go_ret3
    exact⟨rfl,zdC _ _⟩
   ·rw[Ho ha hb h0];have hn0:0<(nS b).natAbs:=by omega
    have eb:=cD b;have ea:=cD a;cases hx:bf a.data.toList
    ·rw[hx] at ea;have h:=dZ (nS a).natAbs (bf b.data.toList) (nS b).natAbs;rw[<-eb,show ((nS a).natAbs:Int)=nS a by rw[ea];simp[sgn]] at h;rw[h.1,h.2];exact qO a b w ha hb h0 hx
    ·rw[hx] at ea;have h:=cH (x:=(nS a).natAbs) hn0 (bf b.data.toList);rw[<-eb,show -((nS a).natAbs:Int)=nS a by rw[ea];simp[sgn]] at h;rw[h.1,h.2];by_cases hr:(nS a).natAbs%(nS b).natAbs=0
     ·have:=qP a b w ha hb h0 hx hr;rw[hr] at this;rw[if_pos hr,if_pos hr];exact this
     ·rw[if_neg hr,if_neg hr];exact tj a b w ha hb h0 hx hr
  ·rw[wR (.inr (.inl (by simpa using hb)))];have hva:vld a.data.toList=true:=ha;have hvb:vld b.data.toList=false:=by simpa [vS] using hb
   clear ha hb;go_enter func209,ntmps209;go_wp2_with (go_at_call 205;refine(au _ _ (by assumption)).mono ?_;rintro e w0 ⟨rfl,rfl⟩)
   go_ret3
   exact⟨rfl,zdC _ _⟩
 ·rw[wR (.inl (by simpa using ha))];have hva:vld a.data.toList=false:=by simpa [vS] using ha
  clear ha;go_enter func209,ntmps209;go_wp2_with (go_at_call 205;refine(au _ _ (by assumption)).mono ?_;rintro e w0 ⟨rfl,rfl⟩)
  go_ret3
  exact⟨rfl,zdC _ _⟩
def NT (g:Nat) (w:World) (J H:Value) (wr:World):Prop:=
 ∃(x y:Nat) (a:Option Addr) (c:Nat),H= .slice a (ae 10 y).length c/\Rd am wr J (ae 10 x)/\Rd am wr H (ae 10 y)/\Below w.heap.size w wr/\Nat.gcd x y=g/\(ae 10 x).length<=200/\(ae 10 y).length<=200
theorem AU (H:x<BIG) (J:y<BIG):Nat.gcd x y<BIG:=by
 by_cases h:x=0
 ·subst h;simpa using J
 ·exact zaS (Nat.gcd_le_left y (by omega)) H
theorem Hu (H:vS a=true) (J:vS b=true):cM a b=(ofI (sgn false (Nat.gcd (nS a).natAbs (nS b).natAbs)),0):=by simp[cM,H,J,sgn,Int.gcd]
theorem Cx (h:vS a=false\/vS b=false):cM a b=(ByteArray.empty,30):=by
 unfold cM;rcases h with h|h<;>simp[h]
theorem AV (a b:zdG) (w:World) (hsa:a.size<=maxLen) (hsb:b.size<=maxLen):
 Calls prog 208 #[.string a, .string b] w λe w'=>e= .returned (vSE (cM a b))/\Below w.heap.size w w':=by
 by_cases ha:vS a=true
 ·by_cases hb:vS b=true
  ·rw[Hu ha hb];have hva:vld a.data.toList=true:=ha;have hvb:vld b.data.toList=true:=hb;have hla:=aM (br ha);have hlb:=aM (br hb);have HG:=zdB (AU (br ha) (br hb));clear ha hb;obtain⟨g,hg⟩: ∃g,Nat.gcd (nS a).natAbs (nS b).natAbs=g:=⟨_,rfl⟩;rw[hg] at HG ⊢;have Hg:=zdB hg;clear hg;go_enter func208,ntmps208
   go_wp2_with (first
    |(go_at_call 205;refine(au _ _ (by assumption)).mono ?_;rintro e w0 ⟨rfl,rfl⟩)
    |(go_at_call 276;(with_reducible refine(aJ a _ hva).mono ?_);rintro e w1 ⟨v1,rfl,hr1,hf1,hb1⟩)
    |(go_at_call 276;(with_reducible refine(aJ b _ hvb).mono ?_);rintro e w2 ⟨v2,rfl,hr2,hf2,hb2⟩))
   go_loopw [7,9] (λkv lv wr=>NT g w kv lv wr) (λ_ lv wr=>wQ wr lv)
   case atStart=>
    obtain⟨a2,c2,e2,_⟩:=hr2.open';exact⟨_,_,a2,c2,e2,hr1.below hb2,hr2,hb1.trans (hb2.mono hb1.size),Hg.out,hla,hlb⟩
   case round=>
    obtain⟨x,y,ad,cp,rfl,hrx,hry,hB,hgg,hlx,hly⟩:=hrel;have Hgg:=zdB hgg;clear hgg;clear hr1 hr2 hf1 hf2 hb1 hb2;by_cases hy0:y=0
    ·subst hy0;have hl0:(ae 10 0).length<=0:=by rw[aF];simp
     have e1:g=x:=by rw[<-Hgg.out];simp
     subst e1;have HQ:=zdB (at7 (n:=sgn false g) (by rw[cz];exact HG.out));go_wp2_with (go_at_call 280;refine(bU false _ _ _ hrx (by omega)).mono ?_;rw[HQ.out];rintro e w6 ⟨rfl,hb6⟩)
     go_ret2
     exact⟨rfl,hB.trans (hb6.mono hB.size)⟩
    ·have hl0:0<(ae 10 y).length:=zbo.2 (λe=>hy0 ((aZ (by decide)).1 e));go_wp2_with (go_at_call 279;refine(iY x y (by omega) _ _ _ hrx hry (by omega) (by omega)).mono ?_;rintro e w3 ⟨v3,a3,c3,rfl,hq3,hr3,hb3⟩)
     go_roundw
     case rel=>exact⟨y,x%y,_,_,rfl,hry.below hb3,hr3,hB.trans (hb3.mono hB.size),by rw[<-Hgg.out,zbL x y,Nat.gcd_rec y x,zbL],hly,zac (aD (by decide) (zbs (zar x (by omega)))) hly⟩
     case measure=>rw[lU hr3,lU hry];exact zar x (by omega)
  ·rw[Cx (.inr (by simpa using hb))];have hva:vld a.data.toList=true:=ha;have hvb:vld b.data.toList=false:=by simpa [vS] using hb
   clear ha hb;go_enter func208,ntmps208;go_wp2_with (go_at_call 205;refine(au _ _ (by assumption)).mono ?_;rintro e w0 ⟨rfl,rfl⟩)
   go_ret2
   exact⟨rfl,zdC _ _⟩
 ·rw[Cx (.inl (by simpa using ha))];have hva:vld a.data.toList=false:=by simpa [vS] using ha
  clear ha;go_enter func208,ntmps208;go_wp2_with (go_at_call 205;refine(au _ _ (by assumption)).mono ?_;rintro e w0 ⟨rfl,rfl⟩)
  go_ret2
  exact⟨rfl,zdC _ _⟩
def Cy (n:Nat) (neg:Bool) (w:World) (out H:Value) (wr:World):Prop:=
 ∃(m:Nat) (l:zdH),H= .int .i64 (sgn neg m)/\OwnL am 3 wr w.heap.size out l/\Below w.heap.size w wr/\l++ae 10 m=ae 10 n/\m<=n
theorem j7 {n m:Nat} (h:l++ae 10 m=ae 10 n) (h0:m≠0):(l++ [m%10])++ae 10 (m / 10)=ae 10 n:=by
 rw[za5,<-h,fe (n:=m) (by decide) h0];rfl
theorem qr {n m:Nat} (h:l++ae 10 m=ae 10 n) (H:(ae 10 n).length<=20):l.length<=20:=by
 have:=congrArg List.length h;rw[za3] at this;omega
theorem ay4 (n:Nat) (w:World) (h2:n<=9223372036854775807):
 Calls prog 111 #[.int .i64 (n:Int)] w λe w'=>e= .returned (.string (ofI n))/\Below w.heap.size w w':=by
 have hln:(ae 10 n).length<=20:=fp (by omega);have hB0:=kJ;go_enter func111,ntmps111;go_wp2
 go_loopw [3,4] (λout mv wr=>Cy n false w out mv wr) (λ_ mv _=>(intOf mv).natAbs)
 case atStart=>exact⟨n, [],rfl,OwnL.nil _ _,zdC _ _,rfl,za0 _⟩
 case round=>
  obtain⟨m,l,rfl,hown,hB,hl,hmn⟩:=hrel;have Hl:=zdB hl;clear hl;have hll:=qr Hl.out hln;have hbs:=hB.size;rw[show sgn false m=(m:Int) from rfl];by_cases h0:m=0
  ·subst h0;have e1:=Hl.out;rw[aF,zbf] at e1;subst e1;go_wp2_with (go_at_call 210;refine(dE false n _ _ hown.rd (by omega)).mono ?_;rintro e w6 ⟨rfl,hb6⟩);go_ret;exact⟨rfl,hB.trans (hb6.mono hB.size)⟩
  ·have c1:((m:Int) !=0)=true:=by rw[zdA];omega
   go_wp2_with (at_builtin;refine py rfl _ _ rfl rfl (hown.alloc _) wr.heap.size 1 _ rfl (aP _ _ _) (m%10) (int_eq (by omega)) (by omega) (by simp;omega) ?_;intro v' w1 hown1 hB1)
   go_roundw
   case rel=>exact⟨m / 10,_,int_eq (by simp only[sgn];simp),hown1,(hB.alloc hB.size _).trans hB1,j7 Hl.out h0,by omega⟩
   case measure=>simp[intOf];omega
theorem ay5 (n:Nat) (w:World) (h1:0<n) (h2:n<=9223372036854775808):
 Calls prog 111 #[.int .i64 (-(n:Int))] w λe w'=>e= .returned (.string (ofI (-(n:Int))))/\Below w.heap.size w w':=by
 have hln:(ae 10 n).length<=20:=fp (by omega);go_enter func111,ntmps111;go_wp2
 go_loopw [3,4] (λout mv wr=>Cy n true w out mv wr) (λ_ mv _=>(intOf mv).natAbs)
 case atStart=>exact⟨n, [],rfl,OwnL.nil _ _,zdC _ _,rfl,za0 _⟩
 case round=>
  obtain⟨m,l,rfl,hown,hB,hl,hmn⟩:=hrel;have Hl:=zdB hl;clear hl;have hll:=qr Hl.out hln;have hbs:=hB.size;rw[show sgn true m= -(m:Int) from rfl];by_cases h0:m=0
  ·subst h0;have e1:=Hl.out;rw[aF,zbf] at e1;subst e1;go_wp2_with (go_at_call 210;refine(dE true n _ _ hown.rd (by omega)).mono ?_;rintro e w6 ⟨rfl,hb6⟩);go_ret;exact⟨rfl,hB.trans (hb6.mono hB.size)⟩
  ·have c1:(-(m:Int) !=0)=true:=by rw[zdA];omega
   obtain⟨md,hmd⟩: ∃md,m%10=md:=⟨_,rfl⟩;obtain⟨mq,hmq⟩: ∃mq,m / 10=mq:=⟨_,rfl⟩;have t1:(-(m:Int)).tmod 10= -(md:Int):=by rw[Int.neg_tmod,<-hmd];congr 1
   have t2:(-(m:Int)).tdiv 10= -(mq:Int):=by rw[Int.neg_tdiv,<-hmq];congr 1
   have hmd9:md<=9:=by omega
   have hmq9:mq<=m:=by omega
   have hmq0:mq<m:=by omega
   have Hmd:=zdB hmd;have Hmq:=zdB hmq;clear hmd hmq;have hm0:0<m:=by omega
   by_cases hz:md=0
   ·subst hz;go_wp2_with (at_builtin;refine py rfl _ _ rfl rfl (hown.alloc _) wr.heap.size 1 _ rfl (aP _ _ _) (m%10) (int_eq (by rw[Hmd.out];rfl)) (by omega) (by simp;omega) ?_;intro v' w1 hown1 hB1)
    go_roundw
    case rel=>exact⟨m / 10,_,int_eq (by rw[Hmq.out];rfl),hown1,(hB.alloc hB.size _).trans hB1,j7 Hl.out h0,by omega⟩
    case measure=>simp[intOf];omega
   ·have c2: -(md:Int)<0:=by omega
    go_wp2_with (at_builtin;refine py rfl _ _ rfl rfl (hown.alloc _) wr.heap.size 1 _ rfl (aP _ _ _) (m%10) (int_eq (by rw[Hmd.out])) (by omega) (by simp;omega) ?_;intro v' w1 hown1 hB1)
    go_roundw
    case rel=>exact⟨m / 10,_,int_eq (by rw[Hmq.out];rfl),hown1,(hB.alloc hB.size _).trans hB1,j7 Hl.out h0,by omega⟩
    case measure=>simp[intOf];omega
theorem av7 (n:Int) (w:World) (h1: -9223372036854775808<=n) (h2:n<=9223372036854775807):
 Calls prog 111 #[.int .i64 n] w λe w'=>e= .returned (.string (ofI n))/\Below w.heap.size w w':=by
 by_cases h:n<0
 ·have:=ay5 n.natAbs w (by omega) (by omega);rwa[show -(n.natAbs:Int)=n by omega] at this
 ·have:=ay4 n.natAbs w (by omega);rwa[show (n.natAbs:Int)=n by omega] at this
end Go.Proofs.YtdjfpjmijhjmpaaGreatDoor
namespace Go.Proofs.YtdjfpjmijhjmpaaGreatDoor
open Go.Proofs.Tryz
open Go Go.RowKit Go.Sy Yk
def GlobU (w:World):Prop:=
 Glob w/\(∃ev,w.cell? ⟨9,0,none⟩=some ev/\(ev= .nilIface\/ ∃te H,ev= .iface te H))/\ ∃ev,w.cell? ⟨10,0,none⟩=some ev/\(ev= .nilIface\/ ∃te H,ev= .iface te H)
theorem GlobU.below {w w':World} (h:GlobU w) (H:Below w.heap.size w w'):GlobU w':=by
 obtain⟨h1,⟨ev,h2,h3⟩,⟨J,h4,h5⟩⟩:=h;refine⟨h1.below H,⟨ev, ?_,h3⟩,⟨J, ?_,h5⟩⟩
 ·rw[H.cell (p:=⟨9,0,none⟩) (World.block_lt_of_cell? w _ h2)];exact h2
 ·rw[H.cell (p:=⟨10,0,none⟩) (World.block_lt_of_cell? w _ h4)];exact h4
variable {n:Int}
theorem V4:cl n=true↔ -9223372036854775808<=n/\n<=9223372036854775807:=Wl
structure GOk (g:List (FuncId×Ctr)):Prop where
 all: ∀W,GlobU W-> ∀p∈g,CtrOK prog W p.1 p.2/\Callable prog p.1
theorem GOk.nil:GOk []:=⟨λ_ _ _ h=>by cases h⟩
variable {g:List (FuncId×Ctr)} {F:FuncId}
theorem GOk.cons {c:Ctr} (h:GOk g) (k: ∀W,GlobU W->CtrOK prog W F c) (J:Callable prog F):GOk ((F,c)::g):=⟨λW H p hp=>by
 rcases zai.1 hp with rfl|hp
 ·exact⟨k W H,J⟩
 ·exact h.all W H p hp⟩
abbrev noA:zdV:=λ_ _=>none
theorem NU:SV.idss []= []:=by simp[SV.idss]
variable {α:Type}
theorem m8 {A:Cod α} {a:α}:SV.idss [A.enc a]= []:=by simp[SV.idss,A.ids]
variable {β:Type}
theorem de {A:Cod α} {B:Cod β} {a:α} {b:β}:SV.idss [A.enc a,B.enc b]= []:=by simp[SV.idss,A.ids,B.ids]
theorem AW {γ:Type} {A:Cod α} {B:Cod β} {C:Cod γ} {a:α} {b:β} {c:γ}:SV.idss [A.enc a,B.enc b,C.enc c]= []:=by simp[SV.idss,A.ids,B.ids,C.ids]
def MY:SV->Option (ByteArray×ByteArray×Int)
 | .tup [.val (.string a), .val (.string b), .val (.int .i64 c)]=>some (a,b,c)
 |_=>none
def cT3:Cod (ByteArray×ByteArray×Int) where
 dec:=MY
 enc r:= .tup [.val (.string r.1), .val (.string r.2.1), .val (.int .i64 r.2.2)]
 ok s a h:=by
  unfold MY at h;split at h
  ·simp at h;rw[<-h]
  ·cases h
 ids _:=by simp[SV.ids,SV.idss]
abbrev cSI:Cod (ByteArray×Int):=cP cS cI
def uz2 (a b:zdG):Bool:=uz a&&uz b
theorem Xi {a b:zdG}:uz2 a b=true↔a.size<=maxLen/\b.size<=maxLen:=by simp[uz2,uz]
def mZ:List (FuncId×Ctr):= [(144,k1 cS cB uz vS),(145,k2 cS cS cI uz2 dw),(72,k2 cS cS cSI uz2 jb),(152,k2 cS cS cSI uz2 fA),(230,k2 cS cS cSI uz2 bM),(146,k2 cS cS cSI uz2 cM),(301,k2 cS cS cT3 uz2 dY),(122,k1 cI cS cl ofI)]
theorem WR:GOk mZ:=by
 have Y: ∀{W w:World},GlobU W->Below W.heap.size W w->Glob w:=λh H=>h.1.below H;have S: ∀{a:zdG},uz a=true->a.size<=maxLen:=λh=>zdu h
 refine(((((((GOk.nil.cons (λW J=>dD λn h β w H=> ?_) call122).cons (λW J=>bC λa b h β w H=> ?_) call301).cons (λW J=>bC λa b h β w H=> ?_) call146).cons (λW J=>bC λa b h β w H=> ?_) call230).cons
  (λW J=>bC λa b h β w H=> ?_) call152).cons (λW J=>bC λa b h β w H=> ?_) call72).cons (λW J=>bC λa b h β w H=> ?_) call145).cons (λW J=>dD λa h β w H=> ?_) call144
 ·exact yG n (V4.1 h).1 (V4.1 h).2 w (Y J H)
 ·exact ip a b w (Y J H) (Xi.1 h).1 (Xi.1 h).2
 ·exact AM a b w (Y J H) (Xi.1 h).1 (Xi.1 h).2
 ·exact AL a b w (Y J H) (Xi.1 h).1 (Xi.1 h).2
 ·exact AK a b w (Y J H) (Xi.1 h).1 (Xi.1 h).2
 ·exact AJ a b w (Y J H) (Xi.1 h).1 (Xi.1 h).2
 ·exact avV a b w (Xi.1 h).1 (Xi.1 h).2
 ·exact wK a w (S h)
def KL:List (FuncId×Ctr):=
 (227,k2 cS cS cSI uz2 jb)::
 [(205,k1 cS cB uz vS),(206,k2 cS cS cI uz2 dw),(207,k2 cS cS cSI uz2 fA),(226,k2 cS cS cSI uz2 bM),(208,k2 cS cS cSI uz2 cM),(209,k2 cS cS cT3 uz2 dY),(111,k1 cI cS cl ofI)]
theorem WK:GOk KL:=by
 refine((((((GOk.nil.cons (λW H=>dD λn h β w J=> ?_) call111).cons (λW H=>bC λa b h β w J=> ?_) call209).cons (λW H=>bC λa b h β w J=> ?_) call208).cons (λW H=>bC λa b h β w J=> ?_) call226).cons
  (λW H=>bC λa b h β w J=> ?_) call207).cons (λW H=>bC λa b h β w J=> ?_) call206).cons (λW H=>dD λa h β w J=> ?_) call205
  |>.cons (λW H=>bC λa b h β w J=> ?_) call227
 ·exact av7 n w (V4.1 h).1 (V4.1 h).2
 ·exact AT a b w (Xi.1 h).1 (Xi.1 h).2
 ·exact AV a b w (Xi.1 h).1 (Xi.1 h).2
 ·exact AR a b w (Xi.1 h).1 (Xi.1 h).2
 ·exact AQ a b w (Xi.1 h).1 (Xi.1 h).2
 ·exact Yv a b w (Xi.1 h).1 (Xi.1 h).2
 ·refine(au a w (zdu h)).mono λe w' ⟨h1,h2⟩=> ?_;subst h2;exact⟨h1,zdC _ _⟩
 ·exact AP a b w (Xi.1 h).1 (Xi.1 h).2
def NV:List FuncId:= [156,154,231,300,153,155,71,148,60,19,65,67,69,252,57,211,110,30,140,204,222,292
 ,225
 ,141
 ,138
 ]
theorem KM: ∀f∈NV,Callable prog f:=by
 simp only[NV,zc2,zck]
 exact⟨call156,call154,call231,call300,call153,call155,call71,call148,call60,call19,call65,call67,call69,call252,call57,call211,call110,call30,call140,call204,call222,call292
 ,call225
 ,call141
 ,call138
 ,λ_ h=>by cases h⟩
abbrev dU (g:List (FuncId×Ctr)) (ann:zdV) (n:Nat) (f:FuncId) (args:zdJ) (K:zdR):Prop:=wq prog (iR NV) (gw g) (gx []) ann n f args (λ_=>none) 0 [] (Go.Sy.okK λr _ _ _=>K r)
theorem GOk.yieldsN {W0:World} (h:GOk g) (hg:GlobU W0) {ann:zdV} {n:Nat} {args:zdJ} {r:SV} (J:SV.idss args= []) (Y:r.ids= []) (H:dU g ann n F args λs=>s=r):Go.Sy.Yields prog W0 F args r:=
 cr (λW N=>mW (h.all W (hg.below N)) (λ_ _ _ h=>by cases h) KM (by kernel_rfl)) J Y H
def GlobB (B:Base):Prop:= ∀w,Pres B w->GlobU w
theorem GlobB.sub {B W:Base} (h:GlobB W) (s:SubB B W):GlobB B:=λw H=>h w (s.pres H)
variable {W:World}
theorem GlobB.of (h:GlobU W):GlobB W:=λw H=>h.below H.below
theorem ac {b:Bool} {K:Prop} (h:b=true) (k:K):ah b K:=by rw[h];exact k
theorem bI {b:Bool} {p q:Prop} (h1:b=true->p) (h2:b=false->q):ag b p q:=by cases b;exact h2 rfl;exact h1 rfl
abbrev s0:zdG:=⟨#[48]⟩
abbrev s1:zdG:=⟨#[49]⟩
abbrev cRE:Cod (RS×Int):=cP cR cI
variable {s:zdG}
theorem Xq (h:vS s=true):s.size<=maxLen:=by have:=dp h;unfold maxLen;omega
theorem bO (h:vS s=true):uz s=true:=zdp (Xq h)
theorem aX {a b:zdG} (h:uz a=true) (k:uz b=true):uz2 a b=true:=by unfold uz2;rw[h,k];rfl
theorem Hw:uz ByteArray.empty=true:=by decide
theorem pB (n:Int):uz (chkI n).1=true:=by
 unfold chkI;split
 ·rename_i h;exact bO (gj h)
 ·exact Hw
theorem Cz (a b:zdG):uz (bM a b).1=true:=by unfold bM;split;exact pB _;exact Hw
theorem ahw {a b:Int} (H:a.natAbs<BIG) (J:b.natAbs<BIG):(Int.gcd a b)<BIG:=by
 rcases zbK a.natAbs with h|h
 ·show Nat.gcd a.natAbs b.natAbs<BIG;rw[h,Nat.gcd_zero_left];exact J
 ·exact zaS (Nat.le_of_dvd h (Nat.gcd_dvd_left _ _)) H
variable {x y:zdG}
theorem AX (J:vS x=true) (N:vS y=true) (h:0<nS y):vS (cM x y).1=true/\(cM x y).2=0/\(dY x (cM x y).1).2.2=0/\(dY y (cM x y).1).2.2=0/\((dY x (cM x y).1).1,(dY y (cM x y).1).1)=rT (Rat.divInt (nS x) (nS y)):=by
 have hg:cM x y=(ofI (Int.gcd (nS x) (nS y)),0):=by unfold cM;rw[if_pos (by simp[J,N])]
 have Y:vS (ofI (Int.gcd (nS x) (nS y):Int))=true:=gj (by rw[zbZ];exact ahw (br J) (br N));have h0:(Int.gcd (nS x) (nS y):Int)≠0:=by
  have:=zc3 (nS x) (show nS y≠0 by omega);omega
 have H: ∀z:zdG,vS z=true->dY z (ofI (Int.gcd (nS x) (nS y)))=(ofI (nS z / Int.gcd (nS x) (nS y)),ofI (nS z%Int.gcd (nS x) (nS y)),0):=λz hz=>by
  unfold dY;rw[if_pos (by simp only[hz,Y,aI,za2,zdt];exact⟨⟨trivial,trivial⟩,h0⟩),aI]
 rw[hg];refine⟨Y,rfl,by rw[H x J],by rw[H y N], ?_⟩;obtain⟨e1,e2⟩:=kK (n:=nS x) h;rw[H x J,H y N];show (ofI _,ofI _)=(ofI _,ofI _);rw[e1,e2]
variable {d:zdG}
theorem ahx (h:vS d=true):dw d s0=VQ (nS d) 0:=by
 unfold dw;rw[if_pos (by rw[h];rfl),show nS s0=0 from by decide]
theorem ax6 (h:vS d=true):seq d s0=decide (nS d=0):=by
 rw[zax,We,zdt];refine⟨λe=>by rw[e];decide,λe=> ?_⟩;rw[<-jc h,e];exact jc (s:=s0) (by decide)
theorem NW (h:vS d=true):seq d s1=decide (nS d=1):=by
 rw[zax,We,zdt];refine⟨λe=>by rw[e];decide,λe=> ?_⟩;rw[<-jc h,e];exact jc (s:=s1) (by decide)
def vF (a:RS):Bool:=bif (bif (bif !vS a.1 then true else !vS a.2) then true else decide (dw a.2 s0<=0)) then false else(bif (cM a.1 a.2).2==0 then seq (cM a.1 a.2).1 s1 else false)
theorem PC (a:RS):vF a=rV a:=by
 unfold vF rV;cases h1:vS a.1 with
 |false=>rfl
 |true=>
  cases h2:vS a.2 with
  |false=>rfl
  |true=>
   rw[ahx h2];show (bif decide (VQ (nS a.2) 0<=0) then false else _)=(true&&decide (0<nS a.2)&&_);by_cases h:0<nS a.2
   ·have c:VQ (nS a.2) 0=1:=by unfold VQ;rw[if_neg (by omega),if_pos h]
    have g:cM a.1 a.2=(ofI (Int.gcd (nS a.1) (nS a.2)),0):=by unfold cM;rw[if_pos (by simp[h1,h2])]
    rw[c,zdp h,NW (AX h1 h2 h).1,g];show decide (nS (ofI _)=1)=(true&&decide _);rw[aI,zb6,zax,zdt,zdt];omega
   ·have c:VQ (nS a.2) 0<=0:=by unfold VQ;split<;>(try split)<;>omega
    rw[zdp c,zds h];rfl
def v4T (a:RS) (K:zdR):Prop:=
 ah (uz a.1) (ah (uz a.2) (ah (dC (!(bif !vS a.1 then true else !vS a.2)) (uz2 a.2 s0)) (ag (bif (bif !vS a.1 then true else !vS a.2) then true else decide (dw a.2 s0<=0)) (K (cB.enc false)) (ah (uz2 a.1 a.2) (K (cB.enc (bif (cM a.1 a.2).2==0 then seq (cM a.1 a.2).1 s1 else false)))))))
theorem PD (a:RS) (K:zdR):dU KL noA 6 211 [cR.enc a] K=v4T a K:=by kernel_rfl
theorem fU {g n:Bool} (h:n=true):dC g n=true:=by rw[h];rfl
variable {a:RS} {K:zdR}
theorem Yw (H:uzR a=true) (k:K (cB.enc (rV a))):ag (bif (bif !vS a.1 then true else !vS a.2) then true else decide (dw a.2 s0<=0)) (K (cB.enc false)) (ah (uz2 a.1 a.2) (K (cB.enc (bif (cM a.1 a.2).2==0 then seq (cM a.1 a.2).1 s1 else false)))):=by
 rw[<-PC] at k;unfold vF at k;refine bI (λh=> ?_) (λh=>ac H ?_)
 ·rw[h] at k;exact k
 ·rw[h] at k;exact k
theorem HC (H:uzR a=true) (k:K (cB.enc (rV a))):v4T a K:=by
 have h1:uz a.1=true/\uz a.2=true:=by simpa [uzR] using H
 exact ac h1.1 (ac h1.2 (ac (fU (aX h1.2 (by decide))) (Yw H k)))
def gJ1:List (FuncId×Ctr):=(211,k1 cR cB uzR rV)::KL
theorem WF:GOk gJ1:=WK.cons (λW H=>dD λa h=>WK.yieldsN (ann:=noA) (n:=6) H m8 (cB.ids _) (by rw[PD];exact HC (K:=λr=>r=_) h rfl)) call211
def uD:SV:=cRE.enc (aFn,40)
def KQ (x y:zdG) (K:zdR):Prop:=
 ah (uz2 x y) (ah (uz2 x (cM x y).1) (ah (uz2 y (cM x y).1) (ag (bif (dY x (cM x y).1).2.2 !=0 then true else(dY y (cM x y).1).2.2 !=0) (K uD) (K (cRE.enc (((dY x (cM x y).1).1,(dY y (cM x y).1).1),0))))))
def m4T (n d:zdG) (K:zdR):Prop:=
 ah (uz n) (ah (uz d) (ag (bif (bif !vS n then true else !vS d) then true else seq d s0) (K uD) (ah (uz2 d s0) (ag (decide (dw d s0<0))
  (ah (uz2 s0 n) (ah (uz2 s0 d) (KQ (fA s0 n).1 (fA s0 d).1 K))) (KQ n d K)))))
theorem PE (n d:zdG) (K:zdR):dU gJ1 noA 8 110 [cS.enc n,cS.enc d] K=m4T n d K:=by kernel_rfl
theorem adk (H:vS x=true) (J:vS y=true) (h:0<nS y) (k:K (cRE.enc (rT (Rat.divInt (nS x) (nS y)),0))):KQ x y K:=by
 obtain⟨N,l2,Y,l4,l5⟩:=AX H J h;unfold KQ;refine ac (aX (bO H) (bO J)) (ac (aX (bO H) (bO N)) (ac (aX (bO J) (bO N)) (bI (λb=> ?_) (λb=> ?_))))
 ·rw[Y,l4] at b;cases b
 ·rw[l5];exact k
theorem HD {n:zdG} (h:vS n=true):(fA s0 n).1=ofI (-nS n)/\(fA s0 n).2=0/\vS (ofI (-nS n))=true:=by
 have H:(0 - nS n).natAbs<BIG:=by have:=br h;omega
 have e:fA s0 n=(ofI (-nS n),0):=by
  unfold fA chkI;rw[if_pos (by rw[h];rfl),show nS s0=0 from by decide,if_pos H,zcN]
 exact⟨by rw[e],by rw[e],gj (by omega)⟩
theorem HE {n:zdG} (N:uz n=true) (J:uz d=true) (k:K (cRE.enc (gX n d))):m4T n d K:=by
 unfold gX at k;refine ac N (ac J (bI (λh=> ?_) (λh=> ?_)))
 ·rw[if_neg ?_] at k
  ·exact k
  ·intro H;simp only[za2,zdt] at H;rw[H.1.1,H.1.2,ax6 H.1.2,zds H.2] at h;cases h
 ·have h1:vS n=true:=by cases e:vS n;rw[e] at h;cases h;rfl
  have h2:vS d=true:=by cases e:vS d;rw[h1,e] at h;cases h;rfl
  have h3:nS d≠0:=by
   rw[h1,h2,ax6 h2] at h;exact zdv h
  rw[if_pos (by simp[h1,h2,h3])] at k;refine ac (aX J (by decide)) (bI (λc=> ?_) (λc=> ?_))
  ·rw[ahx h2] at c;have c:nS d<0:=by
    have:=zdu c;unfold VQ at this;split at this
    ·assumption
    ·split at this<;>omega
   obtain⟨Y,_,a3⟩:=HD h1;obtain⟨b1,_,b3⟩:=HD h2;refine ac (aX (by decide) N) (ac (aX (by decide) J) ?_);rw[Y,b1];refine adk a3 b3 (by rw[aI];omega) ?_;rw[aI,aI,Rat.neg_divInt_neg];exact k
  ·rw[ahx h2] at c;have c:0<nS d:=by
    have:=zdv c;unfold VQ at this;split at this<;>omega
   exact adk h1 h2 c k
def gJ2:List (FuncId×Ctr):=(110,k2 cS cS cRE uz2 gX)::gJ1
theorem WA:GOk gJ2:=WF.cons (λW H=>bC λa b h=>WF.yieldsN (ann:=noA) (n:=8) H de (cRE.ids _) (by
 rw[PE];have h:uz a=true/\uz b=true:=by simpa [uz2] using h
 exact HE (K:=λr=>r=_) h.1 h.2 rfl)) call110
theorem PF (a b:Int) (K:zdR):dU gJ2 noA 8 30 [cI.enc a,cI.enc b] K=ah (cl a) (ah (cl b) (ah (uz2 (ofI a) (ofI b)) (K (cRE.enc (gX (ofI a) (ofI b)))))):=by kernel_rfl
def x4T (a b:RS) (p q r s:zdG) (K:zdR):Prop:=
 ah (uzR a) (ah (uzR b) (ag (bif !rV a then true else !rV b) (K uD) (ah (uz2 p q) (ah (uz2 r s) (ag (bif (bM p q).2 !=0 then true else(bM r s).2 !=0) (K uD) (ah (uz2 (bM p q).1 (bM r s).1) (K (cRE.enc (gX (bM p q).1 (bM r s).1)))))))))
theorem PG (a b:RS) (K:zdR):dU gJ2 noA 8 140 [cR.enc a,cR.enc b] K=x4T a b a.1 b.1 a.2 b.2 K:=by kernel_rfl
theorem PH (a b:RS) (K:zdR):dU gJ2 noA 8 204 [cR.enc a,cR.enc b] K=x4T a b a.1 b.2 a.2 b.1 K:=by kernel_rfl
def c4T (a b:RS) (f:ByteArray->ByteArray->SE) (K:zdR):Prop:=
 ah (uzR a) (ah (uzR b) (ag (bif !rV a then true else !rV b) (K uD) (ah (uz2 a.1 b.2) (ah (uz2 b.1 a.2) (ah (uz2 a.2 b.2) (ag (!(bif (bif (bM a.1 b.2).2==0 then(bM b.1 a.2).2==0 else false) then(bM a.2 b.2).2==0 else false)) (K uD)
  (ah (uz2 (bM a.1 b.2).1 (bM b.1 a.2).1) (ag ((f (bM a.1 b.2).1 (bM b.1 a.2).1).2 !=0) (K uD) (ah (uz2 (f (bM a.1 b.2).1 (bM b.1 a.2).1).1 (bM a.2 b.2).1) (K (cRE.enc (gX (f (bM a.1 b.2).1 (bM b.1 a.2).1).1 (bM a.2 b.2).1))))))))))))
theorem PI (a b:RS) (K:zdR):dU gJ2 noA 8 141 [cR.enc a,cR.enc b] K=c4T a b jb K:=by kernel_rfl
theorem PJ (a b:RS) (K:zdR):dU gJ2 noA 8 138 [cR.enc a,cR.enc b] K=c4T a b fA K:=by kernel_rfl
theorem eG (n:Int):((chkI n).2 !=0)= !aq n:=by
 unfold chkI aq;by_cases h:n.natAbs<BIG
 ·rw[if_pos h,zdp h];rfl
 ·rw[if_neg h,zds h];rfl
theorem iZ (h:aq n=true):(chkI n).1=ofI n:=by unfold chkI;rw[if_pos (V1.1 h)]
theorem dg {a b:zdG} (H:vS a=true) (J:vS b=true):bM a b=chkI (nS a*nS b):=by unfold bM;rw[if_pos (by simp[H,J])]
theorem tw {a b:zdG} (H:vS a=true) (J:vS b=true):jb a b=chkI (nS a+nS b):=by unfold jb;rw[if_pos (by simp[H,J])]
theorem tz {a b:zdG} (H:vS a=true) (J:vS b=true):fA a b=chkI (nS a - nS b):=by unfold fA;rw[if_pos (by simp[H,J])]
theorem dG (h:aq n=true):vS (ofI n)=true:=gj (V1.1 h)
theorem iq (h:uzR a=true):uz a.1=true/\uz a.2=true:=by simpa [uzR] using h
theorem acI {d:Int} (h:aq n=false):rMk n d=(noR,40):=by unfold rMk;rw[if_neg (by simp[h])]
theorem aJl {d:Int} (h:aq d=false):rMk n d=(noR,40):=by unfold rMk;rw[if_neg (by simp[h])]
def xF (a b:RS) (p q r s:zdG):RS×Int:=bif rV a&&rV b then rMk (nS p*nS q) (nS r*nS s) else(noR,40)
theorem HH (a b:RS):xF a b a.1 b.1 a.2 b.2=ale a b:=by unfold xF ale;cases rV a&&rV b<;>rfl
theorem HP (a b:RS):xF a b a.1 b.2 a.2 b.1=cA a b:=by unfold xF cA;cases rV a&&rV b<;>rfl
variable {b:RS} {p q r:zdG}
theorem yO (N:uzR a=true) (Y:uzR b=true) (H:uz p=true/\uz q=true/\uz r=true/\uz s=true) (hv:rV a=true->rV b=true->vS p=true/\vS q=true/\vS r=true/\vS s=true) (k:K (cRE.enc (xF a b p q r s))):x4T a b p q r s K:=by
 unfold xF at k;refine ac N (ac Y (bI (λh=> ?_) (λh=> ?_)))
 ·have:(rV a&&rV b)=false:=by revert h;cases rV a<;>cases rV b<;>simp
  rw[this] at k;exact k
 ·have h:rV a=true/\rV b=true:=by revert h;cases rV a<;>cases rV b<;>simp
  obtain⟨v1,v2,v3,v4⟩:=hv h.1 h.2;rw[h.1,h.2] at k;have k:K (cRE.enc (rMk (nS p*nS q) (nS r*nS s))):=k;refine ac (aX H.1 H.2.1) (ac (aX H.2.2.1 H.2.2.2) ?_);rw[dg v1 v2,dg v3 v4,eG,eG];cases s1:aq (nS p*nS q) with
  |false=>
   rw[acI s1] at k;exact bI (λ_=>k) (λc=>by cases c)
  |true=>
   cases J:aq (nS r*nS s) with
   |false=>
    rw[aJl J] at k;exact bI (λ_=>k) (λc=>by cases c)
   |true=>
    refine bI (λc=>by cases c) (λ_=>ac (aX (pB _) (pB _)) ?_);rw[iZ s1,iZ J,gM];exact k
def sF (F:Int->Int->Int) (a b:RS):RS×Int:=bif rV a&&rV b&&aq (nS a.1*nS b.2)&&aq (nS b.1*nS a.2) then rMk (F (nS a.1*nS b.2) (nS b.1*nS a.2)) (nS a.2*nS b.2) else(noR,40)
theorem HT (a b:RS):sF (λx y=>x+y) a b=fZ a b:=by unfold sF fZ;cases rV a&&rV b&&aq (nS a.1*nS b.2)&&aq (nS b.1*nS a.2)<;>rfl
theorem HW (a b:RS):sF (λx y=>x - y) a b=iF a b:=by unfold sF iF;cases rV a&&rV b&&aq (nS a.1*nS b.2)&&aq (nS b.1*nS a.2)<;>rfl
variable {f:ByteArray->ByteArray->SE}
theorem yP {F:Int->Int->Int} (hf: ∀{x y:zdG},vS x=true->vS y=true->f x y=chkI (F (nS x) (nS y))) (ha:uzR a=true) (hb:uzR b=true) (k:K (cRE.enc (sF F a b))):c4T a b f K:=by
 unfold sF at k;have N:=iq ha;have Y:=iq hb;refine ac ha (ac hb (bI (λh=> ?_) (λh=> ?_)))
 ·have:(rV a&&rV b)=false:=by revert h;cases rV a<;>cases rV b<;>simp
  rw[this] at k;exact k
 ·have h:rV a=true/\rV b=true:=by revert h;cases rV a<;>cases rV b<;>simp
  obtain⟨v1,v2,v3,_⟩:=ay h.1;obtain⟨w1,w2,w3,_⟩:=ay h.2;rw[h.1,h.2] at k;refine ac (aX N.1 Y.2) (ac (aX Y.1 N.2) (ac (aX N.2 Y.2) ?_));have e: ∀x:SE,(x.2==0)= !(x.2 !=0):=λx=>by simp[bne]
  rw[dg v1 w2,dg w1 v2,dg v2 w2,e,e,e,eG,eG,eG];simp only[Bool.not_not];cases s1:aq (nS a.1*nS b.2) with
  |false=>rw[s1] at k;exact bI (λ_=>k) (λc=>by cases c)
  |true=>
  cases H:aq (nS b.1*nS a.2) with
  |false=>rw[s1,H] at k;exact bI (λ_=>k) (λc=>by cases c)
  |true=>
  rw[s1,H] at k;have k:K (cRE.enc (rMk (F (nS a.1*nS b.2) (nS b.1*nS a.2)) (nS a.2*nS b.2))):=k;cases J:aq (nS a.2*nS b.2) with
  |false=>rw[aJl J] at k;exact bI (λ_=>k) (λc=>by cases c)
  |true=>
  refine bI (λc=>by cases c) (λ_=>ac (aX (pB _) (pB _)) ?_);rw[iZ s1,iZ H,iZ J,hf (dG s1) (dG H),aI,aI,eG];cases s4:aq (F (nS a.1*nS b.2) (nS b.1*nS a.2)) with
  |false=>rw[acI s4] at k;exact bI (λ_=>k) (λc=>by cases c)
  |true=>
  refine bI (λc=>by cases c) (λ_=>ac (aX (pB _) (bO (dG J))) ?_);rw[iZ s4,gM];exact k
def rvT (a:RS) (K:zdR):Prop:=
 ah (uz a.1) (ah (dC (!!vS a.1) (uz a.2)) (ah (dC (!(bif !vS a.1 then true else !vS a.2)) (uz2 a.2 s0)) (ag (bif (bif !vS a.1 then true else !vS a.2) then true else decide (dw a.2 s0<=0)) (K (cB.enc false)) (ah (uz2 a.1 a.2) (K (cB.enc (bif (cM a.1 a.2).2==0 then seq (cM a.1 a.2).1 s1 else false)))))))
theorem PK (a:RS) (K:zdR):dU mZ noA 6 57 [cR.enc a] K=rvT a K:=by kernel_rfl
theorem HY (H:uzR a=true) (k:K (cB.enc (rV a))):rvT a K:=by
 have h1:=iq H;exact ac h1.1 (ac (fU h1.2) (ac (fU (aX h1.2 (by decide))) (Yw H k)))
def gI1:List (FuncId×Ctr):=(57,k1 cR cB uzR rV)::mZ
theorem Wt:GOk gI1:=WR.cons (λW H=>dD λa h=>WR.yieldsN (ann:=noA) (n:=6) H m8 (cB.ids _) (by rw[PK];exact HY (K:=λr=>r=_) h rfl)) call57
theorem GOk.sub {h:List (FuncId×Ctr)} (k:GOk g) (J: ∀p∈h,p∈g):GOk h:=⟨λW H p hp=>k.all W H p (J p hp)⟩
variable {ρ:Type} {P:Program}
theorem ow {A:Cod α} {B:Cod β} {R:Cod ρ} {pre pre':α->β->Bool} {f f':α->β->ρ} (hA: ∀a,A.dec (A.enc a)=some a) (hB: ∀b,B.dec (B.enc b)=some b) (h:CtrOK P W F (k2 A B R pre f)) (hp: ∀a b,pre' a b=true->pre a b=true/\f a b=f' a b):CtrOK P W F (k2 A B R pre' f'):=by
 intro β w args b s N H hn;unfold k2 at H;split at H
 ·rename_i x y;split at H
  ·rename_i a c J Y;simp only[za1,zag] at H;obtain⟨rfl,rfl⟩:=H;obtain⟨p1,p2⟩:=hp a c hn;refine h β w [x,y] (pre a c) (R.enc (f' a c)) N ?_ p1;unfold k2;simp only[J,Y,p2]
  ·cases H
 ·cases H
theorem CA {A:Cod α} {R:Cod ρ} {pre pre':α->Bool} {f f':α->ρ} (h:CtrOK P W F (k1 A R pre f)) (hp: ∀a,pre' a=true->pre a=true/\f a=f' a):CtrOK P W F (k1 A R pre' f'):=by
 intro β w args b s N H Y;unfold k1 at H;split at H
 ·rename_i x;split at H
  ·rename_i a J;simp only[za1,zag] at H;obtain⟨rfl,rfl⟩:=H;obtain⟨p1,p2⟩:=hp a Y;refine h β w [x] (pre a) (R.enc (f' a)) N ?_ p1;unfold k1;simp only[J,p2]
  ·cases H
 ·cases H
def pS2 (a b:zdG):Bool:=uz2 a b&&vS a&&vS b
theorem V3 {a b:zdG}:pS2 a b=true↔vS a=true/\vS b=true:=by
 unfold pS2;simp only[za2];exact⟨λh=>⟨h.1.2,h.2⟩,λh=>⟨⟨aX (bO h.1) (bO h.2),h.1⟩,h.2⟩⟩
def wS:List (FuncId×Ctr):= [(57,k1 cR cB (λa=>uzR a&&rV a) λ_=>true),(144,k1 cS cB (λs=>uz s&&vS s) λ_=>true),(145,k2 cS cS cI uz2 dw),
 (72,k2 cS cS cSI (λa b=>pS2 a b&&aq (nS a+nS b)) λa b=>(ofI (nS a+nS b),0)),(152,k2 cS cS cSI (λa b=>pS2 a b&&aq (nS a - nS b)) λa b=>(ofI (nS a - nS b),0)),(230,k2 cS cS cSI (λa b=>pS2 a b&&aq (nS a*nS b)) λa b=>(ofI (nS a*nS b),0)),
 (146,k2 cS cS cSI pS2 λa b=>(ofI (Int.gcd (nS a) (nS b)),0)),(301,k2 cS cS cT3 (λa b=>pS2 a b&&decide (nS b≠0)) λa b=>(ofI (nS a / nS b),ofI (nS a%nS b),0)),(122,k1 cI cS cl ofI)]
theorem WG:GOk wS:=by
 have d2: ∀a:zdG,cS.dec (cS.enc a)=some a:=λ_=>rfl;have M: ∀{W:World} {F:FuncId} {c:Ctr},GlobU W->(F,c)∈gI1->CtrOK prog W F c:=λH h=>(Wt.all _ H _ h).1
 refine((((((((GOk.nil.cons (λW H=>M H (c:=k1 cI cS cl ofI) (by simp[gI1,mZ])) call122).cons (λW H=>ow d2 d2 (M H (c:=k2 cS cS cT3 uz2 dY) (by simp[gI1,mZ])) λa b h=> ?_) call301).cons (λW H=>ow d2 d2 (M H (c:=k2 cS cS cSI uz2 cM) (by simp[gI1,mZ])) λa b h=> ?_) call146).cons
  (λW H=>ow d2 d2 (M H (c:=k2 cS cS cSI uz2 bM) (by simp[gI1,mZ])) λa b h=> ?_) call230).cons (λW H=>ow d2 d2 (M H (c:=k2 cS cS cSI uz2 fA) (by simp[gI1,mZ])) λa b h=> ?_) call152).cons (λW H=>ow d2 d2 (M H (c:=k2 cS cS cSI uz2 jb) (by simp[gI1,mZ])) λa b h=> ?_) call72).cons
  (λW H=>M H (c:=k2 cS cS cI uz2 dw) (by simp[gI1,mZ])) call145).cons (λW H=>CA (M H (c:=k1 cS cB uz vS) (by simp[gI1,mZ])) λa h=> ?_) call144).cons (λW H=>CA (M H (c:=k1 cR cB uzR rV) (by simp[gI1,mZ])) λa h=> ?_) call57
 ·simp only[za2,zdt] at h;have:=V3.1 h.1;exact⟨aX (bO this.1) (bO this.2),by unfold dY;rw[if_pos (by simp[this.1,this.2,h.2])]⟩
 ·have:=V3.1 h;exact⟨aX (bO this.1) (bO this.2),by unfold cM;rw[if_pos (by simp[this.1,this.2])]⟩
 ·simp only[za2] at h;have:=V3.1 h.1;exact⟨aX (bO this.1) (bO this.2),by rw[dg this.1 this.2];unfold chkI;rw[if_pos (V1.1 h.2)]⟩
 ·simp only[za2] at h;have:=V3.1 h.1;exact⟨aX (bO this.1) (bO this.2),by rw[tz this.1 this.2];unfold chkI;rw[if_pos (V1.1 h.2)]⟩
 ·simp only[za2] at h;have:=V3.1 h.1;exact⟨aX (bO this.1) (bO this.2),by rw[tw this.1 this.2];unfold chkI;rw[if_pos (V1.1 h.2)]⟩
 ·simp only[za2] at h;exact h
 ·simp only[za2] at h;exact h
def KR (x y:zdG) (K:zdR):Prop:=
 let g:=ofI (Int.gcd (nS x) (nS y))
 ah (pS2 x y) (ah (pS2 x g&&decide (nS g≠0)) (ah (pS2 y g&&decide (nS g≠0)) (K (cRE.enc ((ofI (nS x / nS g),ofI (nS y / nS g)),0)))))
def CB (x y:zdG) (K:zdR):Prop:=
 ag (seq y s0) (K uD) (ah (uz2 y s0) (ag (decide (dw y s0<0)) (ah (pS2 s0 x&&aq (nS s0 - nS x)) (ah (pS2 s0 y&&aq (nS s0 - nS y)) (KR (ofI (nS s0 - nS x)) (ofI (nS s0 - nS y)) K))) (KR x y K)))
theorem NY (n d:zdG) (K:zdR):dU wS noA 8 148 [cS.enc n,cS.enc d] K=ah (uz n&&vS n) (ah (dC true (uz d&&vS d)) (CB n d K)):=by kernel_rfl
def gNo:List (FuncId×Ctr):= [(144,k1 cS cB uz vS)]
def mkN (n d:zdG) (K:zdR):Prop:=ah (uz n) (ah (dC (!!vS n) (uz d)) (ah (bif (bif !vS n then true else !vS d) then true else seq d s0) (K uD)))
theorem NZ (n d:zdG) (K:zdR):dU gNo noA 8 148 [cS.enc n,cS.enc d] K=mkN n d K:=by kernel_rfl
theorem tA (H:vS x=true) (J:vS y=true) (h:0<nS y) (k:K (cRE.enc (rT (Rat.divInt (nS x) (nS y)),0))):KR x y K:=by
 obtain⟨N,l2,l3,l4,Y⟩:=AX H J h;have hg:(cM x y).1=ofI (Int.gcd (nS x) (nS y)):=by unfold cM;rw[if_pos (by simp[H,J])]
 rw[hg] at N l3 l4 Y;have h0:nS (ofI (Int.gcd (nS x) (nS y)))≠0:=by
  have:=zc3 (nS x) (show nS y≠0 by omega);rw[aI];omega
 have q: ∀z:zdG,vS z=true->(dY z (ofI (Int.gcd (nS x) (nS y)))).1=ofI (nS z / nS (ofI (Int.gcd (nS x) (nS y)))):=λz hz=>by unfold dY;rw[if_pos (by simp[hz,N,h0])]
 rw[<-Y,q x H,q y J] at k;unfold KR;exact ac (V3.2 ⟨H,J⟩) (ac (by rw[V3.2 ⟨H,N⟩,zdp h0];rfl) (ac (by rw[V3.2 ⟨J,N⟩,zdp h0];rfl) k))
theorem ax7 {n:zdG} (h1:vS n=true) (h2:vS d=true) (k:K (cRE.enc (gX n d))):CB n d K:=by
 unfold gX at k;have H:vS s0=true/\nS s0=0:=by decide
 refine bI (λh=> ?_) (λh=>ac (aX (bO h2) (by decide)) ?_)
 ·rw[ax6 h2] at h;have h:=zdu h;rw[if_neg (by simp[h])] at k;exact k
 ·rw[ax6 h2] at h;have h3:=zdv h;rw[if_pos (by simp[h1,h2,h3])] at k;rw[ahx h2];refine bI (λc=> ?_) (λc=> ?_)
  ·have c:nS d<0:=by
    have:=zdu c;unfold VQ at this;split at this
    ·assumption
    ·split at this<;>omega
   have a:=br h1;have b:=br h2;have J: ∀{z:Int},z.natAbs<BIG->aq (nS s0 - z)=true:=λ{z} N=>V1.2 (by rw[H.2];omega);refine ac (by rw[V3.2 ⟨H.1,h1⟩,J a];rfl) (ac (by rw[V3.2 ⟨H.1,h2⟩,J b];rfl) ?_);rw[H.2,zcN,zcN];refine tA (gj (by omega)) (gj (by omega)) (by rw[aI];omega) ?_;rw[aI,aI,Rat.neg_divInt_neg];exact k
  ·have c:0<nS d:=by
    have:=zdv c;unfold VQ at this;split at this<;>omega
   exact tA h1 h2 c k
theorem HZ {n:zdG} (h:(vS n&&vS d)=false):gX n d=(noR,40):=by unfold gX;rw[h];rfl
theorem dj (h:GOk g) (J:GlobU W) {a b:SV} {r:RS×Int} (N:SV.idss [a,b]= []) (H:dU g noA 8 F [a,b] λs=>s=cRE.enc r):Go.Sy.Yields prog W F [a,b] (cRE.enc r):=h.yieldsN (ann:=noA) (n:=8) J N (cRE.ids _) H
theorem PL:GOk gNo:=Wt.sub λp hp=>by simp only[gNo,zaj] at hp;subst hp;simp[gI1,mZ]
def gI2:List (FuncId×Ctr):=(148,k2 cS cS cRE uz2 gX)::gI1
theorem PM:GOk gI2:=Wt.cons (λW J=>bC λn d h=>by
 have h:uz n=true/\uz d=true:=by simpa [uz2] using h
 cases H:vS n&&vS d with
 |true=>
  have v:vS n=true/\vS d=true:=by simpa using H
  exact dj WG J de (by
   rw[NY]
   exact ac (by rw[h.1,v.1];rfl) (ac (fU (by rw[h.2,v.2];rfl)) (ax7 (K:=λr=>r=_) v.1 v.2 rfl)))
 |false=>
  exact dj PL J de (by
   rw[NZ];refine ac h.1 (ac (fU h.2) (ac ?_ (by rw[HZ H];rfl)))
   revert H;cases vS n<;>cases vS d<;>simp)) call148
theorem PN (a b:Int) (K:zdR):dU gI2 noA 8 60 [cI.enc a,cI.enc b] K=ah (cl a) (ah (cl b) (ah (uz2 (ofI a) (ofI b)) (K (cRE.enc (gX (ofI a) (ofI b)))))):=by kernel_rfl
def gNv:List (FuncId×Ctr):= [(57,k1 cR cB uzR rV)]
def gNm:List (FuncId×Ctr):= [(57,k1 cR cB (λa=>uzR a&&rV a) λ_=>true),(230,k2 cS cS cSI uz2 bM),(72,k2 cS cS cSI uz2 jb),(152,k2 cS cS cSI uz2 fA)]
theorem MZ:GOk gNv:=Wt.sub λp hp=>by simp only[gNv,zaj] at hp;subst hp;simp[gI1,mZ]
theorem adl:GOk gNm:=⟨λW H p hp=>by
 simp only[gNm,zai,zbw,or_false] at hp;rcases hp with rfl|rfl|rfl|rfl
 ·exact WG.all W H _ (by simp[wS])
 all_goals exact Wt.all W H _ (by simp[gI1,mZ])⟩
def okB (a:RS):Bool:=dC true (uzR a&&rV a)
def N4 (a b:RS) (p q r s:zdG) (K:zdR):Prop:=ah (okB a) (ah (okB b) (ah (pS2 p q&&aq (nS p*nS q)) (ah (pS2 r s&&aq (nS r*nS s)) (CB (ofI (nS p*nS q)) (ofI (nS r*nS s)) K))))
def uE (a b:RS):Bool:=bif !rV a then true else !rV b
def lr (e:Bool) (s:zdG) (K:zdR):Prop:=ah (bif e then true else seq s s0) (K uD)
def N5 (a b:RS) (K:zdR):Prop:=ah (dC true (uzR a)) (ah (dC (!!rV a) (uzR b)) (ah (uE a b) (ah (uE a b) (lr (uE a b) ⟨#[]⟩ K))))
def yQ (r s:zdG) (K:zdR):Prop:=ah (uz2 r s) (lr ((bM r s).2 !=0) (bM r s).1 K)
def N6 (a b:RS) (p q r s:zdG) (K:zdR):Prop:=ah (okB a) (ah (okB b) (ah (uz2 p q) (ag ((bM p q).2 !=0) (lr ((bM p q).2 !=0) ⟨#[]⟩ K) (yQ r s K))))
theorem KT (a b:RS) (K:zdR):dU wS noA 8 67 [cR.enc a,cR.enc b] K=N4 a b a.1 b.1 a.2 b.2 K:=by kernel_rfl
theorem KV (a b:RS) (K:zdR):dU wS noA 8 69 [cR.enc a,cR.enc b] K=N4 a b a.1 b.2 a.2 b.1 K:=by kernel_rfl
theorem KW (a b:RS) (K:zdR):dU gNv noA 8 67 [cR.enc a,cR.enc b] K=N5 a b K:=by kernel_rfl
theorem KY (a b:RS) (K:zdR):dU gNv noA 8 69 [cR.enc a,cR.enc b] K=N5 a b K:=by kernel_rfl
theorem KZ (a b:RS) (K:zdR):dU gNm noA 8 67 [cR.enc a,cR.enc b] K=N6 a b a.1 b.1 a.2 b.2 K:=by kernel_rfl
theorem K3 (a b:RS) (K:zdR):dU gNm noA 8 69 [cR.enc a,cR.enc b] K=N6 a b a.1 b.2 a.2 b.1 K:=by kernel_rfl
def N7 (a b:RS) (K:zdR):Prop:=ah (dC true (uzR a)) (ah (dC (!!rV a) (uzR b)) (ah (uE a b) (ah (uE a b) (ah (uE a b) (ah (uE a b) (lr (uE a b) ⟨#[]⟩ K))))))
def doS (r s:zdG) (v:SE) (K:zdR):Prop:=ag (v.2 !=0) (lr (v.2 !=0) ⟨#[]⟩ K) (yQ r s K)
def H5 (f:ByteArray->ByteArray->SE) (a b:RS) (K:zdR):Prop:=
 let H:=(bM a.1 b.2).2 !=0
 let e2:=(bM b.1 a.2).2 !=0
 ah (okB a) (ah (okB b) (ah (uz2 a.1 b.2) (ag H (ag H (ag H (lr H ⟨#[]⟩ K) (yQ a.2 b.2 K)) (ah (uz2 (bM a.1 b.2).1 ⟨#[]⟩) (doS a.2 b.2 (f (bM a.1 b.2).1 ⟨#[]⟩) K)))
  (ah (uz2 b.1 a.2) (ag e2 (ag e2 (lr e2 ⟨#[]⟩ K) (yQ a.2 b.2 K)) (ah (uz2 (bM a.1 b.2).1 (bM b.1 a.2).1) (doS a.2 b.2 (f (bM a.1 b.2).1 (bM b.1 a.2).1) K)))))))
def K4 (F:Int->Int->Int) (a b:RS) (K:zdR):Prop:=
 let x:=ofI (nS a.1*nS b.2)
 let y:=ofI (nS b.1*nS a.2)
 ah (okB a) (ah (okB b) (ah (pS2 a.1 b.2&&aq (nS a.1*nS b.2)) (ah (pS2 b.1 a.2&&aq (nS b.1*nS a.2)) (ah (pS2 x y&&aq (F (nS x) (nS y))) (ah (pS2 a.2 b.2&&aq (nS a.2*nS b.2)) (CB (ofI (F (nS x) (nS y))) (ofI (nS a.2*nS b.2)) K))))))
theorem K5 (a b:RS) (K:zdR):dU wS noA 8 19 [cR.enc a,cR.enc b] K=K4 (λx y=>x+y) a b K:=by kernel_rfl
theorem K6 (a b:RS) (K:zdR):dU wS noA 8 65 [cR.enc a,cR.enc b] K=K4 (λx y=>x - y) a b K:=by kernel_rfl
theorem K7 (a b:RS) (K:zdR):dU gNv noA 8 19 [cR.enc a,cR.enc b] K=N7 a b K:=by kernel_rfl
theorem K8 (a b:RS) (K:zdR):dU gNv noA 8 65 [cR.enc a,cR.enc b] K=N7 a b K:=by kernel_rfl
theorem ahy (a b:RS) (K:zdR):dU gNm noA 8 19 [cR.enc a,cR.enc b] K=H5 jb a b K:=by kernel_rfl
theorem La (a b:RS) (K:zdR):dU gNm noA 8 65 [cR.enc a,cR.enc b] K=H5 fA a b K:=by kernel_rfl
theorem Wu {x y:Int}:VQ x y=0↔x=y:=by
 unfold VQ;constructor
 ·intro h;split at h
  ·omega
  ·split at h<;>omega
 ·intro h;subst h;simp
theorem apk (x y:Int):VQ x y= -1\/VQ x y=0\/VQ x y=1:=by
 unfold VQ;split
 ·exact .inl rfl
 ·split
  ·exact .inr (.inr rfl)
  ·exact .inr (.inl rfl)
theorem pC {d m c s res:Int} (H:0<d) (J:0<c) (h:s*VQ (n*c) (m*d)=res):
 (VQ (n / d) (m / c)≠0->s*VQ (n / d) (m / c)=res)/\
 (VQ (n / d) (m / c)=0->(n%d=0->m%c=0->res=0)/\(n%d=0->m%c≠0->res= -s)/\(n%d≠0->m%c=0->res=s)/\
   (n%d≠0->m%c≠0-> -s*VQ (d*(m%c)) (c*(n%d))=res/\0<n%d/\0<m%c/\(n%d).natAbs<d.natAbs)):=by
 have N:=zcl n (show d≠0 by omega);have Y:=zcO n H;have b3:=zcl m (show c≠0 by omega);constructor
 ·intro h0;rw[<-h,Dy H J (λe=>h0 (Wu.2 e))]
 ·intro h0;have e:=Wu.1 h0;rw[FV H J e] at h;refine⟨λh1 h2=> ?_,λh1 h2=> ?_,λh1 h2=> ?_,λh1 h2=>⟨?_,by omega,by omega,by omega⟩⟩
  ·rw[h1,h2,zcm,zcm,Dz] at h;omega
  ·rw[h1,zZ c (by omega) H] at h;omega
  ·rw[h2,aAJ d (by omega) J] at h;omega
  ·rw[<-h,FX (n%d) c (m%c) d,Int.neg_mul,zbM]
abbrev CmX:=Int×RS×RS
def uF (s:zdG):zdG:=bif seq s s0 then s else s1
theorem N8 (s:zdG) (K:zdR):dU KL noA 3 292 [cS.enc s] K=ag (seq s s0) (K (cS.enc s)) (K (cS.enc s1)):=by kernel_rfl
def gJ3:List (FuncId×Ctr):=(292,k1 cS cS (λ_=>true) uF)::gJ2
theorem WS:GOk gJ3:=WA.cons (λW H=>dD λs _=>WK.yieldsN (ann:=noA) (n:=3) H m8 (cS.ids _) (by
 rw[N8];unfold uF
 exact bI (λh=>by rw[h];rfl) (λh=>by rw[h];rfl))) call292
def atg (I:CmX->Prop):zdV:=λf k=>bif Nat.beq f 222&&Nat.beq k 10 then some (λ_=>{X:=CmX,inv:=I,tm:=λx=> [(7, .val (.int .i64 x.1)),(8, .val (.string x.2.1.1)),(9, .val (.string x.2.1.2)),(10, .val (.string x.2.2.1)),(11, .val (.string x.2.2.2))],mu:=λx=>(nS x.2.1.2).natAbs}) else none
def eC4 (s:Int) (p q r t:zdG) (x:CmX):Prop:=(TV.v (cI.enc s)=TV.v (cI.enc x.1)/\TV.v (cS.enc p)=TV.v (cS.enc x.2.1.1)/\TV.v (cS.enc q)=TV.v (cS.enc x.2.1.2)/\TV.v (cS.enc r)=TV.v (cS.enc x.2.2.1)/\TV.v (cS.enc t)=TV.v (cS.enc x.2.2.2)/\True)/\(True/\(True/\True))
def c4B (I:CmX->Prop) (K:zdR) (e:Int->ByteArray->ByteArray->ByteArray->ByteArray->CmX->Prop) (x:CmX):Prop:=
 let D:=dY x.2.1.1 x.2.1.2
 let E:=dY x.2.2.1 x.2.2.2
 ah (uz2 x.2.1.1 x.2.1.2) (ah (uz2 x.2.2.1 x.2.2.2) (ah (uz2 D.1 E.1) (ag (dw D.1 E.1 !=0) (ah (inR .i64 (x.1*dw D.1 E.1)) (K (cI.enc (x.1*dw D.1 E.1))))
  (ag (bif seq D.2.1 s0 then true else seq E.2.1 s0) (ah (uz2 (uF D.2.1) (uF E.2.1)) (ah (inR .i64 (x.1*dw (uF D.2.1) (uF E.2.1))) (K (cI.enc (x.1*dw (uF D.2.1) (uF E.2.1))))))
    (ah (inR .i64 (-x.1)) (∃y:CmX,I y/\((nS y.2.1.2).natAbs<(nS x.2.1.2).natAbs/\e (-x.1) x.2.1.2 D.2.1 x.2.2.2 E.2.1 y)))))))
def c4C (I:CmX->Prop) (a b:RS) (K:zdR):Prop:=
 ah (uzR a) (ah (uzR b) (ag (bif !rV a then true else !rV b) (K (cI.enc 0)) (∃x:CmX,I x/\(eC4 1 a.1 a.2 b.1 b.2 x/\ ∀x:CmX,I x->c4B I K eC4 x))))
theorem PO (I:CmX->Prop) (a b:RS) (K:zdR):dU gJ3 (atg I) 8 222 [cR.enc a,cR.enc b] K=c4C I a b K:=by kernel_rfl
theorem jl (h:uzR a=true) (k:rV a=true):okB a=true:=fU (by rw[h,k];rfl)
theorem Xt {e:Bool} (h:e=true) (k:K (cRE.enc (noR,40))):lr e s K:=by subst h;exact ac rfl k
theorem yR (H:vS r=true) (J:vS s=true) (h:aq (nS r*nS s)=false) (k:K (cRE.enc (noR,40))):yQ r s K:=
 ac (aX (bO H) (bO J)) (Xt (by rw[dg H J,eG,h];rfl) k)
theorem wT (h:(rV a&&rV b)=true):rV a=true/\rV b=true:=by simpa using h
theorem CC (h:(rV a&&rV b)=false):uE a b=true:=by unfold uE;revert h;cases rV a<;>cases rV b<;>simp
theorem CD (hW:GlobU W) (H:uzR a=true) (J:uzR b=true) (hv:rV a=true->rV b=true->vS p=true/\vS q=true/\vS r=true/\vS s=true)
 (y: ∀K,dU wS noA 8 F [cR.enc a,cR.enc b] K=N4 a b p q r s K) (v: ∀K,dU gNv noA 8 F [cR.enc a,cR.enc b] K=N5 a b K) (o: ∀K,dU gNm noA 8 F [cR.enc a,cR.enc b] K=N6 a b p q r s K):
 Go.Sy.Yields prog W F [cR.enc a,cR.enc b] (cRE.enc (xF a b p q r s)):=by
 cases h:rV a&&rV b with
 |false=>
  have e:xF a b p q r s=(noR,40):=by unfold xF;rw[h];rfl
  have k:=CC h;exact dj MZ hW de (by rw[v,e];exact ac (fU H) (ac (fU J) (ac k (ac k (Xt k rfl)))))
 |true=>
  obtain⟨h1,h2⟩:=wT h;obtain⟨Y,v2,v3,v4⟩:=hv h1 h2;have e:xF a b p q r s=rMk (nS p*nS q) (nS r*nS s):=by unfold xF;rw[h];rfl
  cases s1:aq (nS p*nS q) with
  |false=>exact dj adl hW de (by
    rw[o,e,acI s1];refine ac (jl H h1) (ac (jl J h2) (ac (aX (bO Y) (bO v2)) (bI (λc=>Xt c rfl) (λc=> ?_))))
    rw[dg Y v2,eG,s1] at c;cases c)
  |true=>
  cases N:aq (nS r*nS s) with
  |false=>exact dj adl hW de (by
    rw[o,e,aJl N]
    exact ac (jl H h1) (ac (jl J h2) (ac (aX (bO Y) (bO v2)) (bI (λc=>Xt c rfl) (λc=>yR v3 v4 N rfl)))))
  |true=>exact dj WG hW de (by
    rw[y,e]
    exact ac (jl H h1) (ac (jl J h2) (ac (by rw[V3.2 ⟨Y,v2⟩,s1];rfl) (ac (by rw[V3.2 ⟨v3,v4⟩,N];rfl) (ax7 (dG s1) (dG N) (by rw[gM]))))))
theorem CE (hW:GlobU W) {G:Int->Int->Int} (hf: ∀{x y:zdG},vS x=true->vS y=true->f x y=chkI (G (nS x) (nS y))) (ha:uzR a=true) (hb:uzR b=true)
 (y: ∀K,dU wS noA 8 F [cR.enc a,cR.enc b] K=K4 G a b K) (v: ∀K,dU gNv noA 8 F [cR.enc a,cR.enc b] K=N7 a b K) (o: ∀K,dU gNm noA 8 F [cR.enc a,cR.enc b] K=H5 f a b K):
 Go.Sy.Yields prog W F [cR.enc a,cR.enc b] (cRE.enc (sF G a b)):=by
 cases h:rV a&&rV b with
 |false=>
  have e:sF G a b=(noR,40):=by unfold sF;rw[h];rfl
  have k:=CC h;exact dj MZ hW de (by rw[v,e];exact ac (fU ha) (ac (fU hb) (ac k (ac k (ac k (ac k (Xt k rfl)))))))
 |true=>
  obtain⟨h1,h2⟩:=wT h;obtain⟨v1,J,_,_⟩:=ay h1;obtain⟨w1,N,_,_⟩:=ay h2;have m1:((bM a.1 b.2).2 !=0)= !aq (nS a.1*nS b.2):=by rw[dg v1 N,eG]
  have m2:((bM b.1 a.2).2 !=0)= !aq (nS b.1*nS a.2):=by rw[dg w1 J,eG]
  have e:sF G a b=bif aq (nS a.1*nS b.2)&&aq (nS b.1*nS a.2) then rMk (G (nS a.1*nS b.2) (nS b.1*nS a.2)) (nS a.2*nS b.2) else(noR,40):=by unfold sF;rw[h,zb6]
  have start: ∀{K:zdR},(aq (nS a.1*nS b.2)=false->K (cRE.enc (noR,40)))->(aq (nS a.1*nS b.2)=true->aq (nS b.1*nS a.2)=false->K (cRE.enc (noR,40)))->
   (aq (nS a.1*nS b.2)=true->aq (nS b.1*nS a.2)=true->doS a.2 b.2 (f (bM a.1 b.2).1 (bM b.1 a.2).1) K)->H5 f a b K:=λ{K} k1 k2 k3=>by
   unfold H5;dsimp only;rw[m1,m2];refine ac (jl ha h1) (ac (jl hb h2) (ac (aX (bO v1) (bO N)) ?_));cases s1:aq (nS a.1*nS b.2) with
   |false=>exact bI (λ_=>bI (λ_=>bI (λ_=>Xt rfl (k1 s1)) (λc=>by cases c)) (λc=>by cases c)) (λc=>by cases c)
   |true=>
    refine bI (λc=>by cases c) (λ_=>ac (aX (bO w1) (bO J)) ?_);cases H:aq (nS b.1*nS a.2) with
    |false=>exact bI (λ_=>bI (λ_=>Xt rfl (k2 s1 H)) (λc=>by cases c)) (λc=>by cases c)
    |true=>exact bI (λc=>by cases c) (λ_=>ac (aX (Cz _ _) (Cz _ _)) (k3 s1 H))
  cases s1:aq (nS a.1*nS b.2) with
  |false=>exact dj adl hW de (by
    rw[o,e,s1]
    exact start (λ_=>rfl) (λc=>by rw[s1] at c;cases c) (λc=>by rw[s1] at c;cases c))
  |true=>
  cases H:aq (nS b.1*nS a.2) with
  |false=>exact dj adl hW de (by
    rw[o,e,s1,H]
    exact start (λ_=>rfl) (λ_ _=>rfl) (λ_ c=>by rw[H] at c;cases c))
  |true=>
  rw[s1,H] at e;have e:sF G a b=rMk (G (nS a.1*nS b.2) (nS b.1*nS a.2)) (nS a.2*nS b.2):=e;have hx:f (bM a.1 b.2).1 (bM b.1 a.2).1=chkI (G (nS a.1*nS b.2) (nS b.1*nS a.2)):=by
   rw[dg v1 N,dg w1 J,iZ s1,iZ H,hf (dG s1) (dG H),aI,aI]
  cases Y:aq (G (nS a.1*nS b.2) (nS b.1*nS a.2)) with
  |false=>exact dj adl hW de (by
    rw[o,e,acI Y];refine start (λ_=>rfl) (λ_ _=>rfl) λ_ _=> ?_;unfold doS;rw[hx,eG,Y]
    exact bI (λ_=>Xt rfl rfl) (λc=>by cases c))
  |true=>
  cases s3:aq (nS a.2*nS b.2) with
  |false=>exact dj adl hW de (by
    rw[o,e,aJl s3];refine start (λ_=>rfl) (λ_ _=>rfl) λ_ _=> ?_;unfold doS;rw[hx,eG,Y]
    exact bI (λc=>by cases c) (λ_=>yR J N s3 rfl))
  |true=>exact dj WG hW de (by
    rw[y,e];unfold K4;dsimp only;rw[aI,aI]
    exact ac (jl ha h1) (ac (jl hb h2) (ac (by rw[V3.2 ⟨v1,N⟩,s1];rfl) (ac (by rw[V3.2 ⟨w1,J⟩,H];rfl) (ac (by rw[V3.2 ⟨dG s1,dG H⟩,Y];rfl) (ac (by rw[V3.2 ⟨J,N⟩,s3];rfl) (ax7 (dG Y) (dG s3) (by rw[gM]))))))))
theorem ms (h:(uzR a&&uzR b)=true):uzR a=true/\uzR b=true:=by simpa using h
theorem PP (H:rV a=true) (J:rV b=true):vS a.1=true/\vS b.1=true/\vS a.2=true/\vS b.2=true:=⟨(ay H).1,(ay J).1,(ay H).2.1,(ay J).2.1⟩
theorem PQ (H:rV a=true) (J:rV b=true):vS a.1=true/\vS b.2=true/\vS a.2=true/\vS b.1=true:=⟨(ay H).1,(ay J).2.1,(ay H).2.1,(ay J).1⟩
abbrev kRR (f:RS->RS->RS×Int):Ctr:=k2 cR cR cRE (λa b=>uzR a&&uzR b) f
abbrev kRC:Ctr:=k2 cR cR cI (λa b=>uzR a&&uzR b) b9
section
variable {W:World} (hW:GlobU W)
include hW
theorem N9:CtrOK prog W 19 (kRR fZ):=bC λa b h=>by rw[<-HT];exact CE hW tw (ms h).1 (ms h).2 (K5 a b) (K7 a b) (ahy a b)
theorem Oa:CtrOK prog W 65 (kRR iF):=bC λa b h=>by rw[<-HW];exact CE hW tz (ms h).1 (ms h).2 (K6 a b) (K8 a b) (La a b)
theorem Ob:CtrOK prog W 67 (kRR ale):=bC λa b h=>by rw[<-HH];exact CD hW (ms h).1 (ms h).2 PP (KT a b) (KW a b) (KZ a b)
theorem Oc:CtrOK prog W 69 (kRR cA):=bC λa b h=>by rw[<-HP];exact CD hW (ms h).1 (ms h).2 PQ (KV a b) (KY a b) (K3 a b)
theorem yS:CtrOK prog W 57 (k1 cR cB uzR rV):=(Wt.all W hW (57,k1 cR cB uzR rV) zbF).1
theorem Lb:CtrOK prog W 141 (kRR fZ):=bC λa b h=>dj WA hW de (by rw[PI,<-HT];exact yP tw (ms h).1 (ms h).2 rfl)
theorem Lc:CtrOK prog W 138 (kRR iF):=bC λa b h=>dj WA hW de (by rw[PJ,<-HW];exact yP tz (ms h).1 (ms h).2 rfl)
theorem Ld:CtrOK prog W 140 (kRR ale):=bC λa b h=>dj WA hW de (by rw[PG,<-HH];exact yO (ms h).1 (ms h).2 ⟨(iq (ms h).1).1,(iq (ms h).2).1,(iq (ms h).1).2,(iq (ms h).2).2⟩ PP rfl)
theorem Le:CtrOK prog W 204 (kRR cA):=bC λa b h=>dj WA hW de (by rw[PH,<-HP];exact yO (ms h).1 (ms h).2 ⟨(iq (ms h).1).1,(iq (ms h).2).2,(iq (ms h).1).2,(iq (ms h).2).1⟩ PQ rfl)
theorem Er:CtrOK prog W 211 (k1 cR cB uzR rV):=(WF.all W hW (211,k1 cR cB uzR rV) zbF).1
omit hW in
theorem lX {n:Int} (h:cl n=true):uz (ofI n)=true:=by
 have h:=V4.1 h;exact bO (gj (zam (show n.natAbs<10^19 by omega) (zb7 (by decide) (by decide))))
theorem Od:CtrOK prog W 30 (k2 cI cI cRE (λa b=>cl a&&cl b) rMk):=bC λa b h=>dj WA hW de (by
 have h:cl a=true/\cl b=true:=by simpa using h
 rw[PF,gM]
 exact ac h.1 (ac h.2 (ac (aX (lX h.1) (lX h.2)) rfl)))
theorem PR:CtrOK prog W 60 (k2 cI cI cRE (λa b=>cl a&&cl b) rMk):=bC λa b h=>dj PM hW de (by
 have h:cl a=true/\cl b=true:=by simpa using h
 rw[PN,gM]
 exact ac h.1 (ac h.2 (ac (aX (lX h.1) (lX h.2)) rfl)))
omit hW in
theorem pD {n d:zdG} (N:vS n=true) (J:vS d=true) (h0:0<nS d):vS (ofI (nS n / nS d))=true/\vS (ofI (nS n%nS d))=true:=by
 have H:=cD n;have e2:=cD d;refine⟨gj ?_,gj ?_⟩
 ·rw[H,e2];exact lS (by omega) (br N) _ _
 ·rw[H,e2];exact lT (by omega) (br J) _ _
structure CI (r:Int) (x:CmX):Prop where
 n:vS x.2.1.1=true
 d:vS x.2.1.2=true
 m:vS x.2.2.1=true
 c:vS x.2.2.2=true
 d0:0<nS x.2.1.2
 c0:0<nS x.2.2.2
 s:x.1=1\/x.1= -1
 eq:x.1*VQ (nS x.2.1.1*nS x.2.2.2) (nS x.2.2.1*nS x.2.1.2)=r
omit hW in
theorem Lf {a b:RS} (H:rV a=true) (J:rV b=true):b9 a b=VQ (nS a.1*nS b.2) (nS b.1*nS a.2):=by
 unfold b9;rw[if_pos (by rw[H,J];rfl)];exact pX (ay H).2.2.1 (ay J).2.2.1
omit hW in
theorem CI.start {a b:RS} (H:rV a=true) (J:rV b=true):CI (b9 a b) (1,a,b):=⟨(ay H).1,(ay H).2.1,(ay J).1,(ay J).2.1,(ay H).2.2.1,(ay J).2.2.1, .inl rfl,by rw[Lf H J,Int.one_mul]⟩
omit hW in
theorem Es {a b:RS} {K:zdR} (ha:uzR a=true) (J:uzR b=true) (k:K (cI.enc (b9 a b))):c4C (CI (b9 a b)) a b K:=by
 refine ac ha (ac J (bI (λh=> ?_) (λh=> ?_)))
 ·have e:b9 a b=0:=by
   unfold b9;rw[if_neg];intro c;obtain⟨c1,c2⟩:=wT c;rw[c1,c2] at h;cases h
  rw[e] at k;exact k
 ·have h:rV a=true/\rV b=true:=by revert h;cases rV a<;>cases rV b<;>simp
  refine⟨(1,a,b),CI.start h.1 h.2,⟨⟨rfl,rfl,rfl,rfl,rfl,trivial⟩,trivial,trivial,trivial⟩, ?_⟩;generalize b9 a b=r at k ⊢;rintro⟨s,⟨n,d⟩,m,c⟩ ⟨i1,N,i3,Y,i5,i6,i7,i8⟩;dsimp only at i1 N i3 Y i5 i6 i7 i8;obtain⟨p1,p2⟩:=pD i1 N i5;obtain⟨q1,q2⟩:=pD i3 Y i6;have hD:dY n d=(ofI (nS n / nS d),ofI (nS n%nS d),0):=by unfold dY;rw[if_pos (by simp[i1,N];omega)]
  have hE:dY m c=(ofI (nS m / nS c),ofI (nS m%nS c),0):=by unfold dY;rw[if_pos (by simp[i3,Y];omega)]
  obtain⟨r1,r2⟩:=pC i5 i6 i8;have hc: ∀{x y:zdG},vS x=true->vS y=true->dw x y=VQ (nS x) (nS y):=λhx hy=>by unfold dw;rw[if_pos (by rw[hx,hy];rfl)]
  have J: ∀z:Int,(z= -1\/z=0\/z=1)->inR .i64 (s*z)=true:=λz hz=>by rcases i7 with rfl|rfl<;>rcases hz with rfl|rfl|rfl<;>rfl
  have u0:uz s0=true:=by decide
  have u1:uz s1=true:=by decide
  unfold c4B;dsimp only;rw[hD,hE];refine ac (aX (bO i1) (bO N)) (ac (aX (bO i3) (bO Y)) (ac (aX (bO p1) (bO q1)) ?_));rw[hc p1 q1,aI,aI];refine bI (λh0=>ac (J _ (apk _ _)) (by rw[r1 (by simpa using h0)];exact k)) (λh0=> ?_);obtain⟨t1,t2,t3,t4⟩:=r2 (by simpa using h0);have zv: ∀{y:Int} (hy:vS (ofI y)=true),uF (ofI y)=if y=0 then s0 else s1:=λ{y} hy=>by
   unfold uF;rw[ax6 hy,aI];by_cases e:y=0
   ·subst e;exact jc (s:=s0) (by decide)
   ·rw[zds e,if_neg e];rfl
  rw[ax6 p2,ax6 q2,aI,aI,zv p2,zv q2];by_cases H:nS n%nS d=0
  ·rw[zdp H,if_pos H];refine bI (λ_=> ?_) (λc=>by cases c);by_cases e2:nS m%nS c=0
   ·rw[if_pos e2,show dw s0 s0=0 from by decide];exact ac (aX u0 u0) (ac (J 0 (.inr (.inl rfl))) (by rw[Int.mul_zero,<-t1 H e2];exact k))
   ·rw[if_neg e2,show dw s0 s1= -1 from by decide];exact ac (aX u0 u1) (ac (J (-1) (.inl rfl)) (by rw[show s* -1= -s by omega,<-t2 H e2];exact k))
  ·rw[zds H,if_neg H];by_cases e2:nS m%nS c=0
   ·rw[zdp e2,if_pos e2,show dw s1 s0=1 from by decide];exact bI (λ_=>ac (aX u1 u0) (ac (J 1 (.inr (.inr rfl))) (by rw[Int.mul_one,<-t3 H e2];exact k))) (λc=>by cases c)
   ·rw[zds e2];obtain⟨w1,w2,w3,w4⟩:=t4 H e2;refine bI (λc=>by cases c) (λ_=>ac (by rcases i7 with rfl|rfl<;>rfl) ⟨(-s,(d,ofI (nS n%nS d)),(c,ofI (nS m%nS c))),⟨N,p2,Y,q2,by rw[aI];exact w2,by rw[aI];exact w3,by dsimp only;omega, ?_⟩,by dsimp only;rw[aI];exact w4,⟨rfl,rfl,rfl,rfl,rfl,trivial⟩,trivial,trivial,trivial⟩);dsimp only;rw[aI,aI];exact w1
theorem Lg:CtrOK prog W 222 kRC:=bC λa b h=>WS.yieldsN (ann:=atg (CI (b9 a b))) (n:=8) hW de (cI.ids _) (by rw[PO];exact Es (K:=λr=>r=_) (ms h).1 (ms h).2 rfl)
end
def HJ (l:List ByteArray) (H:zdG):zdG:=⟨(Lib.join (l.map (·.data.toList)) H.data.toList).toArray⟩
def abn (s H:zdG):ByteArray×ByteArray×Bool:=(⟨(Lib.cut s.data.toList H.data.toList).1.toArray⟩,⟨(Lib.cut s.data.toList H.data.toList).2.1.toArray⟩,(Lib.cut s.data.toList H.data.toList).2.2)
def Z1 (f:Nat->zdG):Nat->List ByteArray
 |0=> []
 |k+1=>Z1 f k++ [f k]
def abh:List SV->zdG
 | [.val (.string s)]=>s
 |_=>⟨#[]⟩
def abE:List SV->Bool
 | [.val (.string _)]=>true
 |_=>false
theorem abF {l:zdJ} (h:abE l=true):l= [.val (.string (abh l))]:=by
 unfold abE at h;split at h
 ·rfl
 ·cases h
theorem alh (f:Nat->zdG): ∀n,(Z1 f n).length=n
 |0=>rfl
 |k+1=>by rw[Z1,za3,alh f k];rfl
theorem abi (f:Nat->zdG): ∀(n j:Nat),j<n->(Z1 f n)[j]? =some (f j)
 |0,j,h=>by omega
 |k+1,j,h=>by
  rw[Z1];rcases zah j k with H|H
  ·rw[zbB (by rw[alh];exact H)];exact abi f k j H
  ·have:j=k:=by omega
   subst this;rw[zbX (by rw[alh];exact za0 _),alh,zaJ];rfl
theorem ae7: ∀{l:List ByteArray} {e:Nat},e<l.length->l[e]? =some (F7 l e)
 | [],e,h=>by simp at h
 |a::t,0,_=>rfl
 |a::t,e+1,h=>by
  simp only[zcf,F7];exact ae7 (by simpa using h)
def abO {α β γ:Type} (A:Cod α) (B:Cod β) (C:Cod γ):SV->Option (α×β×γ)
 | .tup [x,y,z]=>match A.dec x,B.dec y,C.dec z with
   |some a,some b,some c=>some (a,b,c)
   |_,_,_=>none
 |_=>none
def cP3 {α β γ:Type} (A:Cod α) (B:Cod β) (C:Cod γ):Cod (α×β×γ) where
 dec:=abO A B C
 enc r:= .tup [A.enc r.1,B.enc r.2.1,C.enc r.2.2]
 ok s a h:=by
  unfold abO at h;split at h
  ·split at h
   ·rename_i x y z a b c H J N;simp only[za1] at h;rw[<-h,A.ok _ _ H,B.ok _ _ J,C.ok _ _ N]
   ·cases h
  ·cases h
 ids r:=by simp[SV.ids,SV.idss,A.ids,B.ids,C.ids]
def abo (n:Nat) (B:Blk) (H:zdG):Bool:=decide (0<n)&&(decide (n<=B.n)&&(rL n (λe=>abE (B.get e))&&(decide (n<=140737488355328)&&decide ((HJ (Z1 (λe=>abh (B.get e)) n) H).data.toList.length<=140737488355328))))
def abt:MCtr:=λbl _ args=>match args with
 | [.slc id 0 n, .val (.string H)]=>match bl id with
   |some B=>match B.kd with
    | .gone=>none
    |_=>bif Nat.beq B.sz 1 then some {X:=Unit,pre:=abo n B H,spec:=λ_=>True,out:=λ_=> .val (.string (HJ (Z1 (λe=>abh (B.get e)) n) H)),ex:=λ_=>⟨(),trivial⟩} else none
   |none=>none
 |_=>none
section
variable {W0:Base}
theorem abG:VU prog W0 214 abt:=by
 intro bl β w nx args C i0 n0 o0 l0 H hp;clear l0;unfold abt at H;split at H
 ·rename_i id n J;split at H
  ·rename_i B hB;have key:B.kd≠ .gone->(bif Nat.beq B.sz 1 then some ({X:=Unit,pre:=abo n B J,spec:=λ_=>True,out:=λ_=> .val (.string (HJ (Z1 (λe=>abh (B.get e)) n) J)),ex:=λ_=>⟨(),trivial⟩}:RC) else none)=some C->
    Calls prog 214 (SV.concs β [.slc id 0 n, .val (.string J)]).toArray w λe w'=> ∃x,C.spec x/\ ∃β',Go.Sy.Ends β' (C.res x) e/\BC W0 (fv (chB bl (C.ch x)) nx (C.nw x)) β' w'/\(∀i,bl i≠none->β' i=β i)/\sg (fv (chB bl (C.ch x)) nx (C.nw x)) (C.res x):=by
    intro hg H;cases Y:Nat.beq B.sz 1 with
    |false=>rw[Y] at H;cases H
    |true=>
     rw[Y] at H;simp only[zdr,za1] at H;subst H;have Y:=zab Y;have q:=i0.blk id B hB hg;unfold abo at hp;simp only[za2,zdt] at hp;obtain⟨h0,hn,N,hN,a0⟩:=hp;have e0:=q.not_nil (show 0<B.n by omega);have N:=Cb N;have hL:=alh (λe=>abh (B.get e)) n
     have hj:=strings_Join (β id).blk (β id).off (β id).cap (Z1 (λe=>abh (B.get e)) n) J w (by
      intro j x hx;rcases zah j n with g0|g0
      ·rw[abi _ _ _ g0] at hx;simp only[za1] at hx;have:=q.val j (by omega) 0 (.val (.string (abh (B.get j)))) (by rw[abF (N j g0)];rfl);unfold addr at this;rw[q.sz,Y,zbY,zaY] at this;rw[this,<-hx];rfl
      ·rw[zad (by omega)] at hx;cases hx) (q.lt e0) (by omega) (by have:=q.le;omega) (by
       unfold HJ at a0
       simpa using a0)
     rw[hL] at hj;have ea:(SV.concs β [.slc id 0 n, .val (.string J)]).toArray= #[.slice (some ⟨(β id).blk,(β id).off,none⟩) n (β id).cap, .string J]:=by
      simp only[SV.concs];rw[jq e0 (.inr rfl)];unfold addr;simp only[zcD,zaY,zaX,SV.conc]
     rw[ea];refine hj.mono ?_;rintro e w' ⟨rfl,hb⟩;exact⟨(),trivial,β,by show _=_;simp[SV.conc,HJ],abx i0 o0 (by simp[SV.ids]) hb⟩
   split at H
   ·cases H
   ·rename_i j0;exact key (λe=>j0 e) H
  ·cases H
 ·cases H
theorem abS {W0:World} (hg:GlobU W0):CtrOK prog W0 125 (k2 cS cS (cP3 cS cS cB) (λs _=>decide (s.size<=1000000)) abn):=
 bC λs H h β w J=>by
  have h:s.size<=1000000:=zdu h;obtain⟨⟨⟨m,N⟩,_⟩,_⟩:=hg.below J;refine(strings_Cut s H m w (by omega) N).mono ?_;rintro e w' ⟨rfl,n,rfl⟩;exact⟨rfl,(zdC _ w).drewN n⟩
end
variable {s:zdG}
theorem Lh (h:vS s=true):(s.toList== [48])=decide (nS s=0):=by
 rw[zax,zdx,zdt,xV h,cL];constructor
 ·intro e;exact gT (by rw[e])
 ·intro e;rw[e]
theorem QG (h:vS s=true):(s.toList== [49])=decide (nS s=1):=by
 rw[zax,zdx,zdt,gY h,cL];constructor
 ·intro e;exact gT (by rw[e])
 ·intro e;rw[e]
abbrev vR (a:RS):Value:= .agg #[.string a.1, .string a.2]
def Sz (a:RS):Prop:=a.1.size<=maxLen/\a.2.size<=maxLen
variable {a:RS}
theorem szU (h:uzR a=true):Sz a:=by
 simp only[uzR,uz,za2,zdt] at h;exact h
theorem uzS (h:Sz a):uzR a=true:=by unfold uzR uz;rw[zdp h.1,zdp h.2];rfl
theorem oy (a:RS) (w:World) (hg:GlobU w) (h1:a.1.size<=maxLen) (h2:a.2.size<=maxLen):Calls prog 57 #[.agg #[.string a.1, .string a.2]] w λe w'=>e= .returned (.bool (rV a))/\Below w.heap.size w w':=
 (yS hg oj w [cR.enc a] _ _ (Pres.refl _) rfl (uzS ⟨h1,h2⟩)).2
def abT:List FuncId:= [121,214
 ,118
 ]
theorem abL: ∀f∈abT,Callable prog f:=by
 unfold abT;simp only[zc2]
 exact⟨call121,call214,
  call118,
  λ_ h=>by cases h⟩
abbrev abU (g:List (FuncId×Ctr)) (n:Nat) (f:FuncId) (args:zdJ) (K:zdR):Prop:=wq prog (iR abT) (gw g) (gx [(214,abt)]) noA n f args (λ_=>none) 0 [] (Go.Sy.okK λr _ _ _=>K r)
theorem abu {g:List (FuncId×Ctr)} (h:GOk g) {W0:World} (hg:GlobU W0) {n:Nat} {F:FuncId} {args:zdJ} {r:SV} (J:SV.idss args= []) (Y:r.ids= []) (H:abU g n F args λs=>s=r):Go.Sy.Yields prog W0 F args r:=
 cr (λW N=>mW (h.all W (hg.below N)) (λ_ _ p hp=>by
  simp only[zaj] at hp
  subst hp;exact abG) abL (by kernel_rfl)) J Y H
def gQ0:List (FuncId×Ctr):=
 (125,k2 cS cS (cP3 cS cS cB) (λs _=>decide (s.size<=1000000)) abn)::
 [(57,k1 cR cB uzR rV)]
theorem abP:GOk gQ0:=
 (GOk.nil.cons (λW H=>yS H) call57)
   |>.cons (λW H=>abS H) call125
def slB:zdG:=⟨#[47]⟩
def abW (a:RS) (K:zdR):Prop:=ah (uzR a) (ag (!rV a) (K (cS.enc ⟨#[]⟩)) (ag (seq a.2 ⟨#[49]⟩) (K (cS.enc a.1)) (
 ah (abo 2 {n:=2,sz:=1,get:=je [.val (.string a.1), .val (.string a.2)] 1,kd:= .own} slB) (Unit->True->K (cS.enc (HJ [a.1,a.2] slB))))))
theorem aby (a:RS) (K:zdR):abU gQ0 4 121 [cR.enc a] K=abW a K:=by kernel_rfl
theorem abQ {x y:zdG}:HJ [x,y] slB=⟨(x.data.toList++ [47]++y.data.toList).toArray⟩:=by
 unfold HJ;rw[show slB.data.toList= [47] from rfl,show ([x,y].map (·.data.toList))= [x.data.toList,y.data.toList] from rfl];simp[Lib.join,List.intercalate]
variable {K:zdR}
theorem abl (Y:uzR a=true) (k:K (cS.enc (gk a))):abW a K:=by
 refine ac Y (bI (λh=> ?_) (λh=> ?_))
 ·have e:gk a=⟨#[]⟩:=DA (by simpa using h);rw[e] at k;exact k
 ·have H:rV a=true:=by simpa using h
  obtain⟨v1,N,_,_⟩:=ay H;have e:gk a=if nS a.2=1 then a.1 else HJ [a.1,a.2] slB:=by unfold gk;rw[if_pos H,abQ]
  have J:seq a.2 ⟨#[49]⟩=decide (nS a.2=1):=by rw[F3,show (⟨#[49]⟩:zdG).toList= [49] by rw[cL]];exact QG N
  rw[e] at k;refine bI (λh1=> ?_) (λh1=> ?_)
  ·rw[J] at h1;rw[if_pos (zdu h1)] at k;exact k
  ·rw[J] at h1;rw[if_neg (zdv h1)] at k;refine ac ?_ λ_ _=>k;have l1:a.1.data.toList.length<=1000:=by rw[bj];have:=dp v1;omega
   have l2:a.2.data.toList.length<=1000:=by rw[bj];have:=dp N;omega
   have e2:abo 2 {n:=2,sz:=1,get:=je [.val (.string a.1), .val (.string a.2)] 1,kd:= .own} slB=decide ((HJ [a.1,a.2] slB).data.toList.length<=140737488355328):=rfl;rw[e2,abQ,zdt];simp only[List.toList_toArray,za3,za6];omega
variable {W:World}
theorem abj (H:GlobU W):CtrOK prog W 121 (k1 cR cS uzR gk):=
 dD λa h=>abu abP (n:=4) H m8 (cS.ids _) (by rw[aby];exact abl (K:=λr=>r=_) h rfl)
theorem abp (l:List UInt8):Lib.index l [47]=if l.contains 47 then((l.takeWhile (· !=47)).length:Int) else -1:=by
 induction l with
 |nil=>simp[Lib.index]
 |cons a t H=>
  rw[Lib.index,H];by_cases h:a=47
  ·subst h;simp
  ·have h1:(47==a)=false:=by rw[zdw];exact λe=>h e.symm
   have h2:(a !=47)=true:=by simp[h]
   simp only[List.isPrefixOf,h1,Bool.false_and,zbn,if_false,List.contains_cons,zbi,List.takeWhile_cons,h2,if_true,za4];by_cases h3:t.contains 47=true
   ·simp only[h3,if_true];rw[if_neg (by rw[zdx];omega)];omega
   ·simp only[h3,if_false];rfl
theorem abz (l:List UInt8):Lib.cut l [47]=if l.contains 47 then(l.takeWhile (· !=47),(l.dropWhile (· !=47)).tail,true) else(l, [],false):=by
 unfold Lib.cut;rw[abp];by_cases h:l.contains 47=true
 ·simp only[h,if_true];rw[if_pos (by omega)];have e:l=l.takeWhile (· !=47)++l.dropWhile (· !=47):=List.takeWhile_append_dropWhile.symm;have H:((l.takeWhile (· !=47)).length:Int).toNat=(l.takeWhile (· !=47)).length:=by omega
  rw[H];refine zc7 ?_ (zc7 ?_ rfl)
  ·show l.take _=_
   conv=>lhs;arg 2;rw[e]
   rw[List.take_left]
  ·show l.drop _=_
   conv=>lhs;arg 2;rw[e]
   rw[<-List.drop_drop,List.drop_left];cases l.dropWhile (· !=47)<;>rfl
 ·simp only[h,if_false];rfl
theorem abH (s:zdG):(rOf s).1.size<=s.size/\(rOf s).2.size<=s.size+1:=by
 rw[<-bj (rOf s).1,<-bj (rOf s).2,<-bj s];unfold rOf Yd;by_cases h:s.data.toList.contains 47=true
 ·simp only[h,if_true,List.toList_toArray];have h1:=(List.takeWhile_sublist (· !=47) (l:=s.data.toList)).length_le;have h2:=(List.dropWhile_sublist (· !=47) (l:=s.data.toList)).length_le;refine⟨h1, ?_⟩;rw[zcY];omega
 ·simp only[h,if_false,List.toList_toArray];simp
def gQ1:List (FuncId×Ctr):=(121,k1 cR cS uzR gk)::gQ0
theorem abX:GOk gQ1:=abP.cons (λW H=>abj H) call121
def abM (s:zdG) (r:RS) (K:zdR):Prop:=ah (uzR r) (ag (bif !seq (gk r) s then true else seq s ⟨#[]⟩) (K (cRE.enc (aFn,40))) (K (cRE.enc (r,0))))
def abY (s:zdG) (K:zdR):Prop:=ah (decide (s.size<=1000000)) (ag (abn s slB).2.2 (abM s ((abn s slB).1,(abn s slB).2.1) K) (abM s ((abn s slB).1,⟨#[49]⟩) K))
theorem abA (s:zdG) (K:zdR):abU gQ1 4 118 [cS.enc s] K=abY s K:=by kernel_rfl
theorem abv (J:s.size<=100000) (k:K (cRE.enc (DR s))):abM s (rOf s) K:=by
 obtain⟨N,Y⟩:=abH s;refine ac (by unfold uzR uz;rw[zdp (by unfold maxLen;omega),zdp (by unfold maxLen;omega)];rfl) (bI (λh=> ?_) (λh=> ?_))
 ·have e:DR s=(aFn,40):=by
   unfold DR;by_cases h1:gk (rOf s)=s
   ·have h0:s=ByteArray.empty:=by
     rw[We.2 h1] at h;exact We.1 h
    rw[h0];exact abk
   ·rw[if_neg (by simp[h1])];rfl
  rw[e] at k;exact k
 ·have h1:gk (rOf s)=s:=by
   cases hq:seq (gk (rOf s)) s with
   |true=>exact We.1 hq
   |false=>rw[hq] at h;cases h
  have h0:s≠ByteArray.empty:=λe=>by
   rw[We.2 h1] at h;have:seq s ⟨#[]⟩=true:=We.2 e;rw[this] at h;cases h
  have e:DR s=(rOf s,0):=by
   unfold DR;rw[if_pos];cases H:rV (rOf s) with
   |true=>simp[h1]
   |false=>rw[DA H] at h1;exact absurd h1.symm h0
  rw[e] at k;exact k
theorem abm (J:s.size<=100000) (k:K (cRE.enc (DR s))):abY s K:=by
 have H:abn s slB=if s.data.toList.contains 47 then((rOf s).1,(rOf s).2,true) else(s,⟨#[]⟩,false):=by
  unfold abn;rw[show slB.data.toList= [47] from rfl,abz];unfold rOf Yd;by_cases h:s.data.toList.contains 47=true
  ·simp only[h,if_true]
  ·simp only[h,if_false];rfl
 refine ac (zdp (by omega)) (bI (λh=> ?_) (λh=> ?_))
 ·rw[H] at h ⊢;split at h
  ·rename_i h1;rw[if_pos h1];exact abv J k
  ·cases h
 ·rw[H] at h ⊢;split at h
  ·cases h
  ·rename_i h1;rw[if_neg h1];have:(s,(⟨#[49]⟩:zdG))=rOf s:=by unfold rOf Yd;rw[if_neg h1]
   show abM s (s,⟨#[49]⟩) K;rw[this];exact abv J k
theorem abB (H:GlobU W):CtrOK prog W 118 (k1 cS (cP cR cI) (λs=>decide (s.size<=100000)) DR):=
 dD λs h=>abu abX (n:=4) H m8 (cRE.ids _) (by rw[abA];exact abm (K:=λr=>r=_) (zdu h) rfl)
end Go.Proofs.YtdjfpjmijhjmpaaGreatDoor
namespace Go.Proofs.YtdjfpjmijhjmpaaGreatDoor
open Go.Proofs.Tryz
open Go.RowKit Yk
theorem gg {a:RS} {v:Bool} (h:rV a=v) (w:World) (hg:GlobU w) (H:Sz a):Calls prog 57 #[.agg #[.string a.1, .string a.2]] w λe w'=>e= .returned (.bool v)/\Below w.heap.size w w':=by
 have:=oy a w hg H.1 H.2;rwa[h] at this
def QH (a1 a2 b1 b2:zdG) (w:World) (res:Int) (a:Act) (W:World):Prop:=
 ∃(s:Int) (n d m c:zdG) (u6 u7 u8 u9 H J N Y a0 e0 u16 g0 i0 j0 l0 n0 o0 q0 u0 v0 w0 x0 y0 z0 B0 C0 u32 E0 H0 I0 K0 L0 M0 N0 O0 P0 Q0 R0 T0 U0 V0 Y0 Z0 c1 e1 j1 l1 n1 q1 r1 u1 v1 w1 x1 y1 z1 A1 B1 u64 C1 D1 E1 F1 H1 K1 L1 M1 N1:Value),a={tmps:= #[.agg #[.string a1, .string a2], .agg #[.string b1, .string b2], .pointer (some ⟨w.heap.size,0,none⟩), .pointer (some ⟨w.heap.size+1,0,none⟩), .int .i64 0, .int .i64 s,u6,u7,u8,u9,H,J,N,Y,a0,e0,u16,g0,i0,j0,l0,n0,o0,q0,u0,v0,w0,x0,y0,z0,B0,C0,u32,E0,H0,I0,K0,L0,M0,N0,O0,P0,Q0,R0,T0,U0,V0,Y0,Z0,c1,e1,j1,l1,n1,q1,r1,u1,v1,w1,x1,y1,z1,A1,B1,u64,C1,D1,E1,F1,H1,K1,L1,M1,N1],defers:= []}/\
  ((s=1\/s= -1)/\(vS n=true/\vS d=true/\vS m=true/\vS c=true)/\0<nS d/\0<nS c/\s*VQ (nS n*nS c) (nS m*nS d)=res)/\
  (Blk W w.heap.size #[.string n, .string d] 50/\Blk W (w.heap.size+1) #[.string m, .string c] 50)/\Below w.heap.size w W
def Oe (h:Nat) (W:World):Nat:=match W.cell? ⟨h,1,none⟩ with|some (.string d)=>(nS d).natAbs|_=>0
theorem CF {h:Nat} {W:World} {n d:zdG} {t:TypeId} (H:Blk W h #[.string n, .string d] t):Oe h W=(nS d).natAbs:=by
 unfold Oe;rw[H.cell (i:=1) rfl];rfl
theorem tB (a b:RS) (hra:rV a=true) (hrb:rV b=true) (w:World) (hg:GlobU w) (ha:Sz a) (hb:Sz b):Calls prog 252 #[vR a,vR b] w λe w'=>e= .returned (.int .i64 (b9 a b))/\Below w.heap.size w w':=by
 obtain⟨a1,a2⟩:=a;obtain⟨b1,b2⟩:=b;have Va:=zdB (λw hg=>gg hra w hg ha);have Vb:=zdB (λw hg=>gg hrb w hg hb);obtain⟨p1,p2,p3,_⟩:=ay hra;obtain⟨p4,p5,p6,_⟩:=ay hrb;have hr:b9 (a1,a2) (b1,b2)=VQ (nS a1*nS b2) (nS b1*nS a2):=by
  rw[rD hra hrb];exact pX p3 p6
 rw[hr];show Calls _ _ #[.agg #[.string a1, .string a2], .agg #[.string b1, .string b2]] _ _;have Hg:=zdB hg;have HL0':Hid (vS a1=true/\vS a2=true/\vS b1=true/\vS b2=true):=zdB ⟨p1,p2,p4,p5⟩;simp only at p3 p6 Va Vb;generalize hres:VQ (nS a1*nS b2) (nS b1*nS a2)=res at*
 have Hres:=zdB hres;clear hg ha hb hra hrb hr p1 p2 p4 p5 hres;go_enter func252,ntmps252;go_wp2;refine wp_scope_jumps 0 (QH a1 a2 b1 b2 w res) (λ_ W=>Oe w.heap.size W) rfl ?_ ?_
 ·go_wp2_with fail;refine(Va.out _ (Hg.out.below (((zdC _ w).alloc (za0 _) _).alloc (by simp) _))).mono ?_;rintro e x1 ⟨rfl,hb1⟩;have N0:=zdB (Blk.below (Blk.alloc (Blk.new w #[.string a1, .string a2] 50) (.cells #[.string b1, .string b2] 50)) hb1 (by simp<;>omega));have N3:=zdB (Blk.below (Blk.newAt (w.alloc (.cells #[.string a1, .string a2] 50)) #[.string b1, .string b2] 50 (b:=w.heap.size+1) (by simp)) hb1 (by simp));have HL0:=zdB ((((zdC _ w).alloc (za0 _) _).alloc (by simp) _).trans (hb1.mono (by simp;omega)));clear hb1;obtain⟨g1,g2,_,_,_⟩:=bN N0.out;obtain⟨g3,g4,_,_,_⟩:=bN N3.out;go_wp2_with fail;refine(Vb.out _ (Hg.out.below HL0.out)).mono ?_;rintro e x2 ⟨rfl,hb2⟩;have N1:=zdB (N0.out.below hb2 N0.out.lt);have N2:=zdB (N3.out.below hb2 N3.out.lt);have HL:=zdB (HL0.out.trans (hb2.mono HL0.out.size));clear hb2 N0 N3;obtain⟨g5,g6,_,_,_⟩:=bN N1.out;obtain⟨g7,g8,_,_,_⟩:=bN N2.out;go_wp2
  go_step3
  have HRES:Hid (1*VQ (nS a1*nS b2) (nS b1*nS a2)=res):=zdB (by rw[Int.one_mul];exact Hres.out);have HV:=HL0';have hq1:=pD HV.out.1 HV.out.2.1 p3;have hq2:=pD HV.out.2.2.1 HV.out.2.2.2 p6;have C1:Hid (∀W,GlobU W->Calls prog 301 #[.string a1, .string a2] W λe w'=>e= .returned (.tuple #[.string (ofI (nS a1 / nS a2)), .string (ofI (nS a1%nS a2)), .int .i64 0])/\Below W.heap.size W w'):=zdB λW hg=>by
   have:=ip a1 a2 W hg.1 (Xq HV.out.1) (Xq HV.out.2.1);rwa[ot HV.out.1 HV.out.2.1 (by omega)] at this
  have C2:Hid (∀W,GlobU W->Calls prog 301 #[.string b1, .string b2] W λe w'=>e= .returned (.tuple #[.string (ofI (nS b1 / nS b2)), .string (ofI (nS b1%nS b2)), .int .i64 0])/\Below W.heap.size W w'):=zdB λW hg=>by
   have:=ip b1 b2 W hg.1 (Xq HV.out.2.2.1) (Xq HV.out.2.2.2);rwa[ot HV.out.2.2.1 HV.out.2.2.2 (by omega)] at this
  have C3:Hid (∀W,Calls prog 145 #[.string (ofI (nS a1 / nS a2)), .string (ofI (nS b1 / nS b2))] W λe w'=>e= .returned (.int .i64 (VQ (nS a1 / nS a2) (nS b1 / nS b2)))/\Below W.heap.size W w'):=zdB λW=>by
   have:=avV _ _ W (Xq hq1.1) (Xq hq2.1);unfold dw at this;rwa[if_pos (by simp[hq1.1,hq2.1]),aI,aI] at this
  have E1:=Lh hq1.2;have E2:=Lh hq2.2;rw[aI] at E1 E2;have VR:=zdB hq1.2;have VS:=zdB hq2.2;have HN:=aI (nS a1%nS a2);have HM:=aI (nS b1%nS b2);have HRd:=pC p3 p6 HRES.out;generalize ofI (nS a1 / nS a2)=tq at*
  generalize ofI (nS a1%nS a2)=tr at*
  generalize ofI (nS b1 / nS b2)=tp at*
  generalize ofI (nS b1%nS b2)=ts at*
  have hcv:=apk (nS a1 / nS a2) (nS b1 / nS b2);generalize VQ (nS a1 / nS a2) (nS b1 / nS b2)=cv at*
  have Hcv:=zdB hcv;have E1':=zdB E1;have E2':=zdB E2;have HN':=zdB HN;have HM':=zdB HM;have HRd':=zdB HRd;have P3:=zdB p3;have P6:=zdB p6;clear hq1 hq2 E1 E2 HN HM HRd hcv p3 p6;obtain⟨d1,d2,_,_,_⟩:=bN N1.out;obtain⟨f1,f2,_,_,_⟩:=bN N2.out;go_wp2_with fail;refine(C1.out _ (Hg.out.below HL.out)).mono ?_;rintro e w1 ⟨rfl,hb1⟩;have M1:=zdB (N1.out.below hb1 N1.out.lt);have M2:=zdB (N2.out.below hb1 N2.out.lt);have HL1:=zdB (HL.out.trans (hb1.mono HL.out.size));clear hb1 N1 N2;obtain⟨d3,d4,_,_,_⟩:=bN M1.out;obtain⟨f3,f4,_,_,_⟩:=bN M2.out;go_wp2_with fail;refine(C2.out _ (Hg.out.below HL1.out)).mono ?_;rintro e w2 ⟨rfl,hb2⟩;have N1:=zdB (M1.out.below hb2 M1.out.lt);have N2:=zdB (M2.out.below hb2 M2.out.lt);have HL2:=zdB (HL1.out.trans (hb2.mono HL1.out.size));clear hb2 M1 M2;go_wp2_with fail;refine(C3.out _).mono ?_;rintro e w3 ⟨rfl,hb3⟩;have M1:=zdB (N1.out.below hb3 N1.out.lt);have M2:=zdB (N2.out.below hb3 N2.out.lt);have HL3:=zdB (HL2.out.trans (hb3.mono HL2.out.size));clear hb3 N1 N2;obtain⟨d5,d6,d7,d8,_⟩:=bN M1.out;obtain⟨f5,f6,f7,f8,_⟩:=bN M2.out;rcases Hcv.out with rfl|rfl|rfl
  ·skip
   have hres:=HRd'.out.1 (by decide);have Hq:=zdB hres;clear hres;go_wp2;simp only[Exit.jump];go_ret;exact⟨ze Hq.out,HL3.out⟩
  ·have HR0:=zdB (HRd'.out.2 rfl);by_cases h1:nS a1%nS a2=0
   ·have t1:(tr.toList== [48])=true:=by rw[E1'.out];simp[h1]
    by_cases h2:nS b1%nS b2=0
    ·have t2:(ts.toList== [48])=true:=by rw[E2'.out];simp[h2]
     have Hq:=zdB (HR0.out.1 h1 h2);clear h1 h2;go_wp2;simp only[Exit.jump];go_ret;exact⟨ze Hq.out.symm,HL3.out⟩
    ·have t2:(ts.toList== [48])=false:=by rw[E2'.out];simp[h2]
     have Hq:=zdB (HR0.out.2.1 h1 h2);clear h1 h2;go_wp2;simp only[Exit.jump];go_ret;exact⟨ze Hq.out.symm,HL3.out⟩
   ·have t1:(tr.toList== [48])=false:=by rw[E1'.out];simp[h1]
    by_cases h2:nS b1%nS b2=0
    ·have t2:(ts.toList== [48])=true:=by rw[E2'.out];simp[h2]
     have Hq:=zdB (HR0.out.2.2.1 h1 h2);clear h1 h2;go_wp2;simp only[Exit.jump];go_ret;exact⟨ze Hq.out.symm,HL3.out⟩
    ·have t2:(ts.toList== [48])=false:=by rw[E2'.out];simp[h2]
     have Hq:=zdB (HR0.out.2.2.2 h1 h2);clear h1 h2;have hmx:prog.follows .mixedOrders=true:=by kernel_rfl
     all_goals go_wp2
     all_goals go_region
     all_goals go_wp2
     all_goals go_step3
     all_goals
      have hA:=Blk.drewN ((((Blk.set M1.out 0 (.string a2)).set 1 (.string tr)).setOther (a:=⟨w.heap.size+1,0,none⟩) (by simp) (.string b2)).setOther (a:=⟨w.heap.size+1,1,none⟩) (by simp) (.string ts)) 1;have hC:=Blk.drewN (((Blk.setOther M2.out (a:=⟨w.heap.size,0,none⟩) (by simp) (.string a2)).setOther (a:=⟨w.heap.size,1,none⟩) (by simp) (.string tr)).set 0 (.string b2)|>.set 1 (.string ts)) 1;have hBl:=((((HL3.out.setCell (p:=⟨w.heap.size,0,none⟩) (za0 _) (.string a2)).setCell (p:=⟨w.heap.size,1,none⟩) (za0 _) (.string tr)).setCell (p:=⟨w.heap.size+1,0,none⟩) (zaT _) (.string b2)).setCell (p:=⟨w.heap.size+1,1,none⟩) (zaT _) (.string ts)).drew;have hq:=Hq.out;have hJ:=And.intro (And.intro VR.out (And.intro VS.out (And.intro HV.out.2.1 HV.out.2.2.2))) hq;rw[<-HN'.out,<-HM'.out] at hq;exact⟨rfl,⟨_,_,_,_,_,_,_,_,_,_,_,_,_,_,_,_,_,_,_,_,_,_,_,_,_,_,_,_,_,_,_,_,_,_,_,_,_,_,_,_,_,_,_,_,_,_,_,_,_,_,_,_,_,_,_,_,_,_,_,_,_,_,_,_,_,_,_,_,_,_,_,_,_,rfl,⟨.inr rfl,⟨HV.out.2.1,VR.out,HV.out.2.2.2,VS.out⟩,hq.2.1,hq.2.2.1,hq.1⟩,⟨hA,hC⟩,hBl⟩⟩
  ·skip
   have hres:=HRd'.out.1 (by decide);have Hq:=zdB hres;clear hres;go_wp2;simp only[Exit.jump];go_ret;exact⟨ze Hq.out,HL3.out⟩
 ·rintro a' w' ⟨s,n,d,m,c,u6,u7,u8,u9,u10,u11,u12,u13,u14,u15,u16,u17,u18,u19,u20,u21,u22,u23,u24,u25,u26,u27,u28,u29,u30,u31,u32,u33,u34,u35,u36,u37,u38,u39,u40,u41,u42,u43,u44,u45,u46,u47,u48,u49,u50,u51,u52,u53,u54,u55,u56,u57,u58,u59,u60,u61,u62,u63,u64,u65,u66,u67,u68,u69,u70,u71,u72,u73,rfl,⟨hS,hV,p3',p6',hR⟩,⟨hB1,hB2⟩,hL⟩;have HS:=zdB hS;have HV:=zdB hV;have HRES:=zdB hR;have CM:=zdB (CF hB1);have N1:=zdB hB1;have N2:=zdB hB2;have HL:=zdB hL;have p3:=p3';have p6:=p6';clear hS hV hR hB1 hB2 hL p3' p6';have hq1:=pD HV.out.1 HV.out.2.1 p3;have hq2:=pD HV.out.2.2.1 HV.out.2.2.2 p6;have C1:Hid (∀W,GlobU W->Calls prog 301 #[.string n, .string d] W λe w'=>e= .returned (.tuple #[.string (ofI (nS n / nS d)), .string (ofI (nS n%nS d)), .int .i64 0])/\Below W.heap.size W w'):=zdB λW hg=>by
   have:=ip n d W hg.1 (Xq HV.out.1) (Xq HV.out.2.1);rwa[ot HV.out.1 HV.out.2.1 (by omega)] at this
  have C2:Hid (∀W,GlobU W->Calls prog 301 #[.string m, .string c] W λe w'=>e= .returned (.tuple #[.string (ofI (nS m / nS c)), .string (ofI (nS m%nS c)), .int .i64 0])/\Below W.heap.size W w'):=zdB λW hg=>by
   have:=ip m c W hg.1 (Xq HV.out.2.2.1) (Xq HV.out.2.2.2);rwa[ot HV.out.2.2.1 HV.out.2.2.2 (by omega)] at this
  have C3:Hid (∀W,Calls prog 145 #[.string (ofI (nS n / nS d)), .string (ofI (nS m / nS c))] W λe w'=>e= .returned (.int .i64 (VQ (nS n / nS d) (nS m / nS c)))/\Below W.heap.size W w'):=zdB λW=>by
   have:=avV _ _ W (Xq hq1.1) (Xq hq2.1);unfold dw at this;rwa[if_pos (by simp[hq1.1,hq2.1]),aI,aI] at this
  have E1:=Lh hq1.2;have E2:=Lh hq2.2;rw[aI] at E1 E2;have VR:=zdB hq1.2;have VS:=zdB hq2.2;have HN:=aI (nS n%nS d);have HM:=aI (nS m%nS c);have HRd:=pC p3 p6 HRES.out;generalize ofI (nS n / nS d)=tq at*
  generalize ofI (nS n%nS d)=tr at*
  generalize ofI (nS m / nS c)=tp at*
  generalize ofI (nS m%nS c)=ts at*
  have hcv:=apk (nS n / nS d) (nS m / nS c);generalize VQ (nS n / nS d) (nS m / nS c)=cv at*
  have Hcv:=zdB hcv;have E1':=zdB E1;have E2':=zdB E2;have HN':=zdB HN;have HM':=zdB HM;have HRd':=zdB HRd;have P3:=zdB p3;have P6:=zdB p6;clear hq1 hq2 E1 E2 HN HM HRd hcv p3 p6;obtain⟨d1,d2,_,_,_⟩:=bN N1.out;obtain⟨f1,f2,_,_,_⟩:=bN N2.out;go_wp2_with fail;refine(C1.out _ (Hg.out.below HL.out)).mono ?_;rintro e w1 ⟨rfl,hb1⟩;have M1:=zdB (N1.out.below hb1 N1.out.lt);have M2:=zdB (N2.out.below hb1 N2.out.lt);have HL1:=zdB (HL.out.trans (hb1.mono HL.out.size));clear hb1 N1 N2;obtain⟨d3,d4,_,_,_⟩:=bN M1.out;obtain⟨f3,f4,_,_,_⟩:=bN M2.out;go_wp2_with fail;refine(C2.out _ (Hg.out.below HL1.out)).mono ?_;rintro e w2 ⟨rfl,hb2⟩;have N1:=zdB (M1.out.below hb2 M1.out.lt);have N2:=zdB (M2.out.below hb2 M2.out.lt);have HL2:=zdB (HL1.out.trans (hb2.mono HL1.out.size));clear hb2 M1 M2;go_wp2_with fail;refine(C3.out _).mono ?_;rintro e w3 ⟨rfl,hb3⟩;have M1:=zdB (N1.out.below hb3 N1.out.lt);have M2:=zdB (N2.out.below hb3 N2.out.lt);have HL3:=zdB (HL2.out.trans (hb3.mono HL2.out.size));clear hb3 N1 N2;obtain⟨d5,d6,d7,d8,_⟩:=bN M1.out;obtain⟨f5,f6,f7,f8,_⟩:=bN M2.out;rcases Hcv.out with rfl|rfl|rfl
  ·skip
   rcases HS.out with rfl|rfl
   ·have hres:=HRd'.out.1 (by decide);have Hq:=zdB hres;clear hres;go_wp2;simp only[Exit.jump];go_ret;exact⟨ze Hq.out,HL3.out⟩
   ·have hres:=HRd'.out.1 (by decide);have Hq:=zdB hres;clear hres;go_wp2;simp only[Exit.jump];go_ret;exact⟨ze Hq.out,HL3.out⟩
  ·have HR0:=zdB (HRd'.out.2 rfl);by_cases h1:nS n%nS d=0
   ·have t1:(tr.toList== [48])=true:=by rw[E1'.out];simp[h1]
    by_cases h2:nS m%nS c=0
    ·have t2:(ts.toList== [48])=true:=by rw[E2'.out];simp[h2]
     have Hq:=zdB (HR0.out.1 h1 h2);clear h1 h2;go_wp2;simp only[Exit.jump];go_ret;exact⟨ze Hq.out.symm,HL3.out⟩
    ·have t2:(ts.toList== [48])=false:=by rw[E2'.out];simp[h2]
     have Hq:=zdB (HR0.out.2.1 h1 h2);clear h1 h2;rcases HS.out with rfl|rfl
     ·go_wp2;simp only[Exit.jump];go_ret;exact⟨ze Hq.out.symm,HL3.out⟩
     ·go_wp2;simp only[Exit.jump];go_ret;exact⟨ze Hq.out.symm,HL3.out⟩
   ·have t1:(tr.toList== [48])=false:=by rw[E1'.out];simp[h1]
    by_cases h2:nS m%nS c=0
    ·have t2:(ts.toList== [48])=true:=by rw[E2'.out];simp[h2]
     have Hq:=zdB (HR0.out.2.2.1 h1 h2);clear h1 h2;go_wp2;simp only[Exit.jump];go_ret;exact⟨ze Hq.out.symm,HL3.out⟩
    ·have t2:(ts.toList== [48])=false:=by rw[E2'.out];simp[h2]
     have Hq:=zdB (HR0.out.2.2.2 h1 h2);clear h1 h2;have hmx:prog.follows .mixedOrders=true:=by kernel_rfl
     rcases HS.out with rfl|rfl
     all_goals go_wp2
     all_goals go_region
     all_goals go_wp2
     all_goals go_step3
     all_goals
      have hA:=Blk.drewN ((((Blk.set M1.out 0 (.string d)).set 1 (.string tr)).setOther (a:=⟨w.heap.size+1,0,none⟩) (by simp) (.string c)).setOther (a:=⟨w.heap.size+1,1,none⟩) (by simp) (.string ts)) 1;have hC:=Blk.drewN (((Blk.setOther M2.out (a:=⟨w.heap.size,0,none⟩) (by simp) (.string d)).setOther (a:=⟨w.heap.size,1,none⟩) (by simp) (.string tr)).set 0 (.string c)|>.set 1 (.string ts)) 1;have hBl:=((((HL3.out.setCell (p:=⟨w.heap.size,0,none⟩) (za0 _) (.string d)).setCell (p:=⟨w.heap.size,1,none⟩) (za0 _) (.string tr)).setCell (p:=⟨w.heap.size+1,0,none⟩) (zaT _) (.string c)).setCell (p:=⟨w.heap.size+1,1,none⟩) (zaT _) (.string ts)).drew;have hq:=Hq.out;have hJ:=And.intro (And.intro VR.out (And.intro VS.out (And.intro HV.out.2.1 HV.out.2.2.2))) hq;rw[<-HN'.out,<-HM'.out] at hq;refine⟨rfl,⟨_,_,_,_,_,_,_,_,_,_,_,_,_,_,_,_,_,_,_,_,_,_,_,_,_,_,_,_,_,_,_,_,_,_,_,_,_,_,_,_,_,_,_,_,_,_,_,_,_,_,_,_,_,_,_,_,_,_,_,_,_,_,_,_,_,_,_,_,_,_,_,_,_,rfl,⟨by first|exact .inl rfl|exact .inr rfl,⟨HV.out.2.1,VR.out,HV.out.2.2.2,VS.out⟩,hq.2.1,hq.2.2.1,hq.1⟩,⟨hA,hC⟩,hBl⟩, ?_⟩;refine zaS (Nat.le_of_eq (CF hA)) ?_;rw[CM.out];exact hq.2.2.2
  ·skip
   rcases HS.out with rfl|rfl
   ·have hres:=HRd'.out.1 (by decide);have Hq:=zdB hres;clear hres;go_wp2;simp only[Exit.jump];go_ret;exact⟨ze Hq.out,HL3.out⟩
   ·have hres:=HRd'.out.1 (by decide);have Hq:=zdB hres;clear hres;go_wp2;simp only[Exit.jump];go_ret;exact⟨ze Hq.out,HL3.out⟩
theorem tC (a b:RS) (w:World) (hg:GlobU w) (ha:Sz a) (hb:Sz b):Calls prog 252 #[vR a,vR b] w λe w'=>e= .returned (.int .i64 (b9 a b))/\Below w.heap.size w w':=by
 cases hra:rV a with
 |true=>
  cases hrb:rV b with
  |true=>exact tB a b hra hrb w hg ha hb
  |false=>
   have hr:b9 a b=0:=by unfold b9;simp[hrb]
   rw[hr];obtain⟨a1,a2⟩:=a;obtain⟨b1,b2⟩:=b;show Calls _ _ #[.agg #[.string a1, .string a2], .agg #[.string b1, .string b2]] _ _;have Va:=zdB (λw hg=>gg hra w hg ha);have Vb:=zdB (λw hg=>gg hrb w hg hb);simp only at Va Vb;have Hg:=zdB hg;clear hg ha hb hra hrb hr;go_enter func252,ntmps252;go_wp2;refine wp_scope_jumps 0 (λ_ _=>False) (λ_ _=>0) rfl ?_ (λ_ _ h=>h.elim);go_wp2_with fail;refine(Va.out _ (Hg.out.below (((zdC _ w).alloc (za0 _) _).alloc (by simp) _))).mono ?_;rintro e x1 ⟨rfl,hb1⟩;have N3:=zdB (Blk.below (Blk.newAt (w.alloc (.cells #[.string a1, .string a2] 50)) #[.string b1, .string b2] 50 (b:=w.heap.size+1) (by simp)) hb1 (by simp));have HL0:=zdB ((((zdC _ w).alloc (za0 _) _).alloc (by simp) _).trans (hb1.mono (by simp;omega)));clear hb1;obtain⟨g3,g4,_,_,_⟩:=bN N3.out;go_wp2_with fail;refine(Vb.out _ (Hg.out.below HL0.out)).mono ?_;rintro e x2 ⟨rfl,hb2⟩;have HL:=zdB (HL0.out.trans (hb2.mono HL0.out.size));clear hb2;go_wp2;simp only[Exit.jump];go_ret;exact⟨rfl,HL.out⟩
 |false=>
  have hr:b9 a b=0:=by unfold b9;simp[hra]
  rw[hr];obtain⟨a1,a2⟩:=a;obtain⟨b1,b2⟩:=b;show Calls _ _ #[.agg #[.string a1, .string a2], .agg #[.string b1, .string b2]] _ _;have Va:=zdB (λw hg=>gg hra w hg ha);simp only at Va;have Hg:=zdB hg;clear hg ha hb hra hr;go_enter func252,ntmps252;go_wp2;refine wp_scope_jumps 0 (λ_ _=>False) (λ_ _=>0) rfl ?_ (λ_ _ h=>h.elim);go_wp2_with fail;refine(Va.out _ (Hg.out.below (((zdC _ w).alloc (za0 _) _).alloc (by simp) _))).mono ?_;rintro e x1 ⟨rfl,hb1⟩;have HL0:=zdB ((((zdC _ w).alloc (za0 _) _).alloc (by simp) _).trans (hb1.mono (by simp;omega)));clear hb1;go_wp2;simp only[Exit.jump];go_ret;exact⟨rfl,HL0.out⟩
end Go.Proofs.YtdjfpjmijhjmpaaGreatDoor
namespace Go.Proofs.YtdjfpjmijhjmpaaGreatDoor
open Go.Proofs.Tryz
open Go Go.RowKit Go.Sy Yk
def aB0:List FuncId:= [112,113]
theorem aB1: ∀f∈aB0,Callable prog f:=by
 unfold aB0;simp only[zc2];exact⟨call112,call113,λ_ h=>by cases h⟩
abbrev aB2 (g:List (FuncId×Ctr)) (ann:zdV) (n:Nat) (f:FuncId) (args:zdJ) (K:zdR):Prop:=wq prog (iR aB0) (gw g) (gx []) ann n f args (λ_=>none) 0 [] (Go.Sy.okK λr _ _ _=>K r)
theorem aAd {g:List (FuncId×Ctr)} (h:GOk g) {W0:World} (hg:GlobU W0) {ann:zdV} {n:Nat} {F:FuncId} {args:zdJ} {r:SV} (J:SV.idss args= []) (Y:r.ids= []) (H:aB2 g ann n F args λs=>s=r):Go.Sy.Yields prog W0 F args r:=
 cr (λW N=>mW (h.all W (hg.below N)) (λ_ _ p hp=>by cases hp) aB1 (by kernel_rfl)) J Y H
def aDN:List (FuncId×Ctr):= [(211,k1 cR cB uzR rV)]
theorem aB3:GOk aDN:=GOk.nil.cons (λW H=>Er H) call211
def aEE (a:RS) (K:zdR):Prop:=ah (uzR a) (ag (!rV a) (K (cS.enc ⟨#[]⟩)) (ag (seq a.2 ⟨#[49]⟩) (K (cS.enc a.1)) (
 ah (decide (a.1.size+slB.size<=9223372036854775807)) (ah (decide ((a.1++slB).size+a.2.size<=9223372036854775807)) (K (cS.enc (a.1++slB++a.2)))))))
theorem aBs (a:RS) (K:zdR):aB2 aDN noA 4 112 [cR.enc a] K=aEE a K:=by kernel_rfl
theorem aDO {x y:zdG}:HJ [x,y] slB=x++slB++y:=by
 rw[abQ];apply gT;simp[ByteArray.toList_data_append,slB]
variable {K:zdR}
theorem azQ {a:RS} (Y:uzR a=true) (k:K (cS.enc (gk a))):aEE a K:=by
 refine ac Y (bI (λh=> ?_) (λh=> ?_))
 ·have e:gk a=⟨#[]⟩:=DA (by simpa using h);rw[e] at k;exact k
 ·have H:rV a=true:=by simpa using h
  obtain⟨v1,N,_,_⟩:=ay H;have e:gk a=if nS a.2=1 then a.1 else a.1++slB++a.2:=by unfold gk;rw[if_pos H,<-aDO,abQ]
  have J:seq a.2 ⟨#[49]⟩=decide (nS a.2=1):=by rw[F3,show (⟨#[49]⟩:zdG).toList= [49] by rw[cL]];exact QG N
  rw[e] at k;have l1:=dp v1;have l2:=dp N;refine bI (λh1=> ?_) (λh1=> ?_)
  ·rw[J] at h1;rw[if_pos (zdu h1)] at k;exact k
  ·rw[J] at h1;rw[if_neg (zdv h1)] at k;have e1:slB.size=1:=rfl;refine ac (zdp (by omega)) (ac (zdp ?_) k);rw[ByteArray.size_append];omega
variable {W:World}
theorem azs (H:GlobU W):CtrOK prog W 112 (k1 cR cS uzR gk):=
 dD λa h=>aAd aB3 (ann:=noA) (n:=4) H m8 (cS.ids _) (by rw[aBs];exact azQ (K:=λr=>r=_) h rfl)
def aEF:List (FuncId×Ctr):=(112,k1 cR cS uzR gk)::aDN
theorem aDP:GOk aEF:=aB3.cons (λW H=>azs H) call112
def aB4 (I:Int->Prop) (N:Int):zdV:=λf k=>bif Nat.beq f 113&&Nat.beq k 3 then some (λ_=>{X:=Int,inv:=I,tm:=λx=> [(5, .val (.int .i64 x))],mu:=λx=>(N - x).toNat,keep:= [0,2,3,4]}) else none
theorem aEG {x:Int} (h: -9223372036854775808<=x) (H:x<=9223372036854775807):inR .i64 x=true:=Wl.2 ⟨h,H⟩
def aB5 (s:zdG) (r:RS) (K:zdR):Prop:=ah (uzR r) (ah (dC (!!rV r) (uzR r)) (ag (bif !rV r then true else !seq (gk r) s) (K (cRE.enc (aFn,40))) (K (cRE.enc (r,0)))))
def aEH (s:zdG) (i z:Int):Prop:=(TV.v (cI.enc i)=TV.v (cI.enc z)/\TV.v (cS.enc s)=TV.v (cS.enc s)/\TV.v (.ptr 0 0 0)=TV.v (.ptr 0 0 0)/\TV.v (cI.enc 0)=TV.v (cI.enc 0)/\TV.v (.ptr 4 0 0)=TV.v (.ptr 4 0 0)/\True)/\(True/\(True/\True))
def aEI (I:Int->Prop) (N:Int) (s:zdG) (K:zdR):Prop:= ∃J:Int,I J/\(aEH s 0 J/\ ∀x:Int,I x->ag (decide (x<(s.size:Int)))
 (ah (decide (0<=x)&&decide (x<(s.size:Int))) (ag (F6 s x.toNat==47)
   (ah (decide (0<=x)&&decide (x<=(s.size:Int))) (ah (inR .i64 (x+1)) (ah (decide (0<=x+1)&&decide (x+1<=(s.size:Int))) (aB5 s (s.extract 0 x.toNat,s.extract (x+1).toNat s.size) K))))
   (ah (inR .i64 (x+1)) (∃H:Int,I H/\((N - H).toNat<(N - x).toNat/\aEH s (x+1) H)))))
 (aB5 s (s,⟨#[49]⟩) K))
theorem aBt (I:Int->Prop) (N:Int) (s:zdG) (K:zdR):aB2 aEF (aB4 I N) 4 113 [cS.enc s] K=aEI I N s K:=by kernel_rfl
variable {s:zdG}
theorem aAe (hs:s.size<=100000) (k:K (cRE.enc (DR s))):aB5 s (rOf s) K:=by
 obtain⟨z1,z2⟩:=abH s;have Y:uzR (rOf s)=true:=by unfold uzR uz;rw[zdp (by unfold maxLen;omega),zdp (by unfold maxLen;omega)];rfl
 have J:DR s=if rV (rOf s)&&decide (gk (rOf s)=s) then(rOf s,0) else(noR,40):=rfl;refine ac Y (ac (fU Y) (bI (λh=> ?_) (λh=> ?_)))
 ·rw[J,if_neg (by
   intro H;simp only[za2,zdt] at H;rw[H.1,We.2 H.2] at h
   cases h)] at k
  exact k
 ·rw[J,if_pos (by
   cases N:rV (rOf s) with
   |false=>rw[N] at h;cases h
   |true=>
    rw[N] at h;cases hq:seq (gk (rOf s)) s with
    |true=>simp[We.1 hq]
    |false=>rw[hq] at h;cases h)] at k
  exact k
def aEJ (s:zdG) (x:Int):Prop:=0<=x/\x<=(s.size:Int)/\(s.data.toList.take x.toNat).contains 47=false
theorem azR (hs:s.size<=100000) (k:K (cRE.enc (DR s))):aEI (aEJ s) s.size s K:=by
 refine⟨0,⟨zat _,Int.natCast_nonneg _,by simp⟩,⟨⟨rfl,rfl,rfl,rfl,rfl,trivial⟩,trivial,trivial,trivial⟩,λx hx=> ?_⟩;obtain⟨h0,h1,h2⟩:=hx;refine bI (λJ=> ?_) (λJ=> ?_)
 ·have J:=zdu J;have H:x.toNat<s.data.toList.length:=by rw[bj];omega
  have Y:F6 s x.toNat=((s.data.toList[x.toNat]'(H)).toNat:Int):=by unfold F6;rw[zaa H]
  have n1:(x+1).toNat=x.toNat+1:=by omega
  refine ac (by rw[za2];exact⟨zdp h0,zdp J⟩) (bI (λh=> ?_) (λh=> ?_))
  ·rw[zdx,Y] at h;have N:s.data.toList[x.toNat]'(H)=47:=UInt8.toNat_inj.1 (by show _=47;omega);have e:s.data.toList=s.data.toList.take x.toNat++47::s.data.toList.drop (x.toNat+1):=by
    rw[<-N,<-zaH H,zdm]
   have a0: ∀b∈s.data.toList.take x.toNat,(b !=47)=true:=λb J=>by
    rw[zdA];rintro rfl;rw[List.contains_iff_mem.2 J] at h2;cases h2
   have er:rOf s=(s.extract 0 x.toNat,s.extract (x+1).toNat s.size):=by
    have c:s.data.toList.contains 47=true:=by rw[e];simp
    unfold rOf Yd;rw[if_pos c];refine zc7 ?_ ?_
    ·apply gT;show _=(s.extract 0 x.toNat).data.toList;rw[e,List.takeWhile_append_of_pos a0,List.takeWhile_cons_of_neg (by simp)];simp[zdk,List.extract_eq_take_drop]
    ·apply gT;show _=(s.extract (x+1).toNat s.size).data.toList;rw[e,List.dropWhile_append_of_pos a0,List.dropWhile_cons_of_neg (by simp)];rw[n1];simp[zdk,List.extract_eq_take_drop];rw[zaI (by rw[zbQ,bj];omega)]
   refine ac (by rw[za2];exact⟨zdp h0,zdp h1⟩) (ac (aEG (by omega) (by omega)) (ac (by rw[za2];exact⟨zdp (by omega),zdp (by omega)⟩) ?_));rw[<-er];exact aAe hs k
  ·refine ac (aEG (by omega) (by omega)) ⟨x+1,⟨by omega,by omega, ?_⟩,by omega,⟨rfl,rfl,rfl,rfl,rfl,trivial⟩,trivial,trivial,trivial⟩;rw[n1,List.take_succ_eq_append_getElem H,List.contains_append,h2,zbi];rw[Y] at h;simp only[List.contains_cons,List.contains_nil,Bool.or_false];rw[zdw];intro N;rw[<-N] at h;simp at h
 ·have J:=zdv J;have er:rOf s=(s,⟨#[49]⟩):=by
   have c: ¬s.data.toList.contains 47=true:=by
    rw[zaI (by rw[bj];omega)] at h2;rw[h2];simp
   unfold rOf Yd;rw[if_neg c]
  rw[<-er];exact aAe hs k
theorem aBu (H:GlobU W):CtrOK prog W 113 (k1 cS (cP cR cI) (λs=>decide (s.size<=100000)) DR):=
 dD λs h=>aAd aDP (ann:=aB4 (aEJ s) s.size) (n:=4) H m8 (cRE.ids _) (by rw[aBt];exact azR (K:=λr=>r=_) (zdu h) rfl)
section
variable {W0:World}
theorem Of {F:FuncId} {f:RS->RS->Int} (H: ∀a b w,Below W0.heap.size W0 w->Sz a->Sz b->Calls prog F #[vR a,vR b] w λe w'=>e= .returned (.int .i64 (f a b))/\Below w.heap.size w w'):CtrOK prog W0 F (k2 cR cR cI (λa b=>uzR a&&uzR b) f):=
 bC λa b h β w J=>by
  simp only[za2] at h;exact(H a b w J (szU h.1) (szU h.2)).mono λe w' ⟨h1,h2⟩=>⟨h1,h2⟩
theorem Li (hg:GlobU W0): ∀p∈qH,CtrOK prog W0 p.1 p.2/\Callable prog p.1:=by
 have G: ∀w,Below W0.heap.size W0 w->GlobU w:=λw H=>hg.below H;simp only[qH,zc2,zck]
 exact⟨⟨N9 hg,call19⟩,
  ⟨Oa hg,call65⟩,
  ⟨Ob hg,call67⟩,
  ⟨Oc hg,call69⟩,
  ⟨Of λa b w H N J=>tC a b w (G w H) N J,call252⟩,
  ⟨yS hg,call57⟩,
  ⟨abj hg,call121⟩,
  ⟨abB hg,call118⟩,
  ⟨Lb hg,call141⟩,
  ⟨Lc hg,call138⟩,
  ⟨Ld hg,call140⟩,
  ⟨Le hg,call204⟩,
  ⟨Lg hg,call222⟩,
  ⟨Er hg,call211⟩,
  ⟨azs hg,call112⟩,
  ⟨aBu hg,call113⟩,
  ⟨Od hg,call30⟩,λ_ h=>by cases h⟩
end
theorem bE {K:Prop}:ah true K=K:=rfl
theorem H7 {g n:Bool}:dC g n=true↔(g=true->n=true):=by cases g<;>cases n<;>simp[dC]
variable {n:Int}
theorem VP:inR .i64 n=true↔ -9223372036854775808<=n/\n<=9223372036854775807:=Wl
theorem Wr:GOk qH:=⟨λ_ h=>Li h⟩
theorem Lj: ∀f∈NK,Callable prog f:=by
 simp only[NK,zc2,zck]
 exact⟨call315,call314,call357,call384,call356,call312,call316,call243,call313,call403,call404,call411,call402,call400,call401,call410,call387,call388,call389,call405,call399,call385,call386
 ,λ_ h=>by cases h⟩
theorem GOk.yields {g:List (FuncId×Ctr)} {W0:World} (h:GOk g) (hg:GlobU W0) {ann:zdV} {n:Nat} {F:FuncId} {args:zdJ} {r:SV} (J:SV.idss args= []) (Y:r.ids= []) (H:ig g ann n F args λs=>s=r):Go.Sy.Yields prog W0 F args r:=
 cr (λW N=>mW (h.all W (hg.below N)) (λ_ _ _ h=>by cases h) Lj (by kernel_rfl)) J Y H
theorem vD (a b c:Int) (K:zdR):ig qH noA 3 315 [cI.enc a,cI.enc b,cI.enc c] K=K (cB.enc (aj a b c)):=by kernel_rfl
theorem H8 (s:zdG) (K:zdR):ig qH noA 3 314 [cS.enc s] K=K (cR.enc (s,⟨#[49]⟩)):=by kernel_rfl
theorem Ll (K:zdR):ig qH noA 3 357 [] K=K (c7.enc sR):=by kernel_rfl
def H9 (I:Int×Int->Prop):zdV:=λf k=>bif Nat.beq f 384&&Nat.beq k 2 then some (λ_=>{X:=Int×Int,inv:=I,tm:=λx=> [(5, .val (.int .i64 x.1)),(6, .val (.int .i64 x.2))],mu:=λx=>x.2.toNat,keep:= [0,1,4]}) else none
def PT (n d p q:Int) (z:Int×Int):Prop:=((((TV.v (cI.enc p)=TV.v (cI.enc z.1))/\((TV.v (cI.enc q)=TV.v (cI.enc z.2))/\((TV.v (cI.enc n)=TV.v (cI.enc n))/\((TV.v (cI.enc d)=TV.v (cI.enc d))/\((TV.v (SV.ptr 0 0 0)=TV.v (SV.ptr 0 0 0))/\True)))))/\(True/\(True/\True))))
def Og (I:Int×Int->Prop) (n d:Int) (K:zdR):Prop:=
 ah (inR .i64 (-n)) (∃N:Int×Int,I N/\PT n d (if -n>n then -n else n) d N/\ ∀H:Int×Int,I H->
  ag (H.2 !=0) (ah (!decide (H.2=0)) (∃J:Int×Int,I J/\(J.2.toNat<H.2.toNat)/\PT n d H.2 (H.1.tmod H.2) J))
   (ah (!decide (H.1=0)&&inR .i64 (n.tdiv H.1)) (ah (!decide (H.1=0)&&inR .i64 (d.tdiv H.1)) (K (c22.enc (n.tdiv H.1,d.tdiv H.1))))))
theorem Oh (I:Int×Int->Prop) (n d:Int) (K:zdR):ig qH (H9 I) 3 384 [cI.enc n,cI.enc d] K=Og I n d K:=by kernel_rfl
def Lm (n d:Int) (x:Int×Int):Prop:=(0<=x.1/\x.1<=1000000)/\(0<=x.2/\x.2<=1000000)/\Int.gcd x.1 x.2=Int.gcd n d
theorem yT {a b:Int} (H:0<=a) (J:0<b):Int.gcd b (a.tmod b)=Int.gcd a b:=by
 obtain⟨m,rfl⟩:=zcP H;obtain⟨k,rfl⟩:=zcP (Int.le_of_lt J);rw[<-Int.ofNat_tmod,zdj,zdj,zbL m k,Nat.gcd_rec k m,zbL]
theorem Et {d:Int} (hn: -1000000<=n/\n<=1000000) (hd:1<=d/\d<=1000000) (K:zdR) (J:K (c22.enc (qG n d))):Og (Lm n d) n d K:=by
 have hg:0<Int.gcd n d:=zc3 _ (by omega);have Y:(Int.gcd n d:Int)<=d:=Int.le_of_dvd (by omega) (Int.gcd_dvd_right n d);unfold Og;rw[VP.2 (by omega),bE];refine⟨((if -n>n then -n else n),d),⟨⟨by simp only;split<;>omega,by simp only;split<;>omega⟩,⟨by simp only;omega,by simp only;omega⟩, ?_⟩,⟨⟨rfl,rfl,rfl,rfl,rfl,trivial⟩,trivial,trivial,trivial⟩, ?_⟩
 ·simp only;split
  ·rw[Int.neg_gcd]
  ·rfl
 ·rintro⟨a,b⟩ ⟨⟨h1,h2⟩,⟨h3,h4⟩,h5⟩;simp only at h1 h2 h3 h4 h5 ⊢;rw[VH];refine⟨λH=> ?_,λH=> ?_⟩
  ·have H:b≠0:=by simpa using H
   rw[zds H,zbg,bE];have:=zcn a (show 0<b by omega);have h0:=zco b h1;exact⟨(b,a.tmod b),⟨⟨h3,h4⟩,⟨h0,by simp only;omega⟩,by simp only;rw[yT h1 (by omega)];exact h5⟩,by simp only;omega,⟨rfl,rfl,rfl,rfl,rfl,trivial⟩,trivial,trivial,trivial⟩
  ·have H:b=0:=by simpa using H
   subst H;rw[Int.gcd_zero_right] at h5;have N:a=(Int.gcd n d:Int):=by omega
   have e1:=zcp n a;have e2:=zcp d a;rw[zds (by omega: ¬a=0),zbg,zb6,zb6,VP.2 (by omega),VP.2 (by omega),bE,bE,N];exact J
theorem VL {lo hi:Int}:aj n lo hi=true↔lo<=n/\n<=hi:=by unfold aj;simp
def g1:List (FuncId×Ctr):=(315,k3 cI cI cI cB (λ_ _ _=>true) aj)::(314,k1 cS cR (λ_=>true) (λs=>(s,⟨#[49]⟩)))::(357,k0 c7 sR)::(384,k2 cI cI c22 (λn d=>aj n (-1000000) 1000000&&aj d 1 1000000) qG)::qH
theorem WL:GOk g1:=
 (((Wr.cons (λW H=>bC λn d h=>by
     simp only[za2,VL] at h
     exact Wr.yields (ann:=H9 (Lm n d)) (n:=3) H de (c22.ids _) (by rw[Oh];exact Et h.1 h.2 (λr=>r=_) rfl)) call384).cons
   (λW H=>GF (Wr.yields (ann:=noA) (n:=3) H NU (c7.ids _) (by rw[Ll]))) call357).cons
   (λW H=>dD λs _=>Wr.yields (ann:=noA) (n:=3) H m8 (cR.ids _) (by rw[H8])) call314).cons
   (λW H=>sQ λa b c _=>Wr.yields (ann:=noA) (n:=3) H AW (cB.ids _) (by rw[vD])) call315
theorem Ln (p:Int×Int) (K:zdR):ig g1 noA 3 356 [c22.enc p] K=
 ah (dC (aj p.2 1 12&&aj p.1 (-12) 12) (aj p.1 (-1000000) 1000000&&aj p.2 1 1000000)) (K (cB.enc (aj p.2 1 12&&aj p.1 (-12) 12&&eq2 (qG p.1 p.2) p))):=by kernel_rfl
variable {p:Int×Int}
theorem Lo {q:Int×Int}:eq2 p q=true↔p=q:=by
 unfold eq2;simp[Prod.ext_iff]
theorem Lp (p q:Int×Int):eq2 p q=decide (p=q):=by
 rw[zax,Lo];simp
theorem AY (p:Int×Int) (K:zdR) (H:K (cB.enc (aR p))):ah (dC (aj p.2 1 12&&aj p.1 (-12) 12) (aj p.1 (-1000000) 1000000&&aj p.2 1 1000000)) (K (cB.enc (aj p.2 1 12&&aj p.1 (-12) 12&&eq2 (qG p.1 p.2) p))):=by
 have:dC (aj p.2 1 12&&aj p.1 (-12) 12) (aj p.1 (-1000000) 1000000&&aj p.2 1 1000000)=true:=by
  rw[H7];intro h;simp only[za2,VL] at h ⊢;omega
 rw[this,bE,Lp,Bool.and_assoc];exact H
theorem Ia (d:D7) (f:RS) (k:Int) (K:zdR):ig g1 noA 3 316 [c7.enc d,cR.enc f,cI.enc k] K=
 ag (k==0&&eq7 d sR) (K (cU.enc ⟨d,f,rZ,k,2⟩)) (K (cU.enc ⟨d,f,rZ,k,1⟩)):=by kernel_rfl
theorem yU (d:D7) (f:RS) (k:Int) (K:zdR) (H:K (cU.enc (bT d f k))):ag (k==0&&eq7 d sR) (K (cU.enc ⟨d,f,rZ,k,2⟩)) (K (cU.enc ⟨d,f,rZ,k,1⟩)):=by
 rw[VH];unfold bT at H;refine⟨λh=> ?_,λh=> ?_⟩<;>(rw[h] at H;exact H)
def g2:List (FuncId×Ctr):=(356,k1 c22 cB (λ_=>true) aR)::(316,k3 c7 cR cI cU (λ_ _ _=>true) bT)::g1
theorem WT:GOk g2:=
 (WL.cons (λW H=>sQ λa b c _=>WL.yields (ann:=noA) (n:=3) H AW (cU.ids _) (by rw[Ia];exact yU _ _ _ (λr=>r=_) rfl)) call316).cons
   (λW H=>dD λs _=>WL.yields (ann:=noA) (n:=3) H m8 (cB.ids _) (by rw[Ln];exact AY _ (λr=>r=_) rfl)) call356
def Q3 (p:Int×Int->Int×Int->Prop->Prop) (a b r:D7) (F:Nat->D7->Prop) (T:Prop):Prop:=
 p a.d0 b.d0 (ag (!aR r.d0) (F 0 ⟨r.d0,(0,0),(0,0),(0,0),(0,0),(0,0),(0,0)⟩)
 (p a.d1 b.d1 (ag (!aR r.d1) (F 1 ⟨r.d0,r.d1,(0,0),(0,0),(0,0),(0,0),(0,0)⟩)
 (p a.d2 b.d2 (ag (!aR r.d2) (F 2 ⟨r.d0,r.d1,r.d2,(0,0),(0,0),(0,0),(0,0)⟩)
 (p a.d3 b.d3 (ag (!aR r.d3) (F 3 ⟨r.d0,r.d1,r.d2,r.d3,(0,0),(0,0),(0,0)⟩)
 (p a.d4 b.d4 (ag (!aR r.d4) (F 4 ⟨r.d0,r.d1,r.d2,r.d3,r.d4,(0,0),(0,0)⟩)
 (p a.d5 b.d5 (ag (!aR r.d5) (F 5 ⟨r.d0,r.d1,r.d2,r.d3,r.d4,r.d5,(0,0)⟩)
 (p a.d6 b.d6 (ag (!aR r.d6) (F 6 r) T)))))))))))))
def Oi (p:Int×Int->Int×Int->Prop->Prop) (a b:D7):Prop:=(∀Q,Q->p a.d0 b.d0 Q)/\(∀Q,Q->p a.d1 b.d1 Q)/\(∀Q,Q->p a.d2 b.d2 Q)/\(∀Q,Q->p a.d3 b.d3 Q)/\(∀Q,Q->p a.d4 b.d4 Q)/\(∀Q,Q->p a.d5 b.d5 Q)/\(∀Q,Q->p a.d6 b.d6 Q)
variable {r:D7}
theorem ir (h:eX r=true):km r=(r,true):=by
 unfold eX at h;simp only[za2] at h;obtain⟨h0,h1,h2,h3,h4,h5,h6⟩:=h;simp only[km,h0,h1,h2,h3,h4,h5,h6,zbh,zdq]
theorem qt {b:Bool} (h:(!b)=false):b=true:=by simpa using h
variable {T:Prop}
theorem iu {p:Int×Int->Int×Int->Prop->Prop} {a b:D7} {F:Nat->D7->Prop} (hp:Oi p a b) (hF:eX r=false-> ∀d,km r=(d,false)-> ∀k,F k d) (H:eX r=true->T):Q3 p a b r F T:=by
 obtain⟨p0,p1,J,N,Y,p5,p6⟩:=hp;unfold Q3;refine p0 _ ?_;rw[VH];refine⟨λh=>hF (by unfold eX;rw[zap] at h;simp[h]) _ (by simp only[km,h,zdr]) _,λh0=>p1 _ ?_⟩;rw[VH];refine⟨λh=>hF (by unfold eX;rw[zap] at h;simp[h]) _ (by simp only[km,h0,h,zdr,zdq]) _,λh1=>J _ ?_⟩;rw[VH];refine⟨λh=>hF (by unfold eX;rw[zap] at h;simp[h]) _ (by simp only[km,h0,h1,h,zdr,zdq]) _,λh2=>N _ ?_⟩;rw[VH];refine⟨λh=>hF (by unfold eX;rw[zap] at h;simp[h]) _ (by simp only[km,h0,h1,h2,h,zdr,zdq]) _,λh3=>Y _ ?_⟩;rw[VH];refine⟨λh=>hF (by unfold eX;rw[zap] at h;simp[h]) _ (by simp only[km,h0,h1,h2,h3,h,zdr,zdq]) _,λh4=>p5 _ ?_⟩;rw[VH];refine⟨λh=>hF (by unfold eX;rw[zap] at h;simp[h]) _ (by simp only[km,h0,h1,h2,h3,h4,h,zdr,zdq]) _,λh5=>p6 _ ?_⟩;rw[VH];refine⟨λh=>hF (by unfold eX;rw[zap] at h;simp[h]) _ (by simp only[km,h0,h1,h2,h3,h4,h5,h,zdr,zdq]) _,λh6=>H ?_⟩;simp only[eX,qt h0,qt h1,qt h2,qt h3,qt h4,qt h5,qt h6,zaQ]
def aH (u:Un):Bool:=uzR u.f&&uzR u.o
def Ib (u:Un) (K:zdR):Prop:=
 Q3 (λ_ _ Q=>Q) u.d u.d u.d (λ_ _=>K (cB.enc false)) (ah (uzR u.f) (ah (dC (!!rV u.f) (uzR u.o)) (ah (dC (!(!rV u.f|| !rV u.o)) (uzR u.f&&true))
  (ag (!rV u.f|| !rV u.o||decide (b9 u.f rZ<=0)|| !aj u.k 0 100) (K (cB.enc false)) (K (cB.enc (u.s==0||eqU u (bT u.d u.f u.k))))))))
theorem Ic (u:Un) (K:zdR):ig g2 noA 6 243 [cU.enc u] K=Ib u K:=by kernel_rfl
theorem yV (u:Un) (K:zdR) (h:aH u=true) (H:K (cB.enc (VK u))):Ib u K:=by
 unfold aH at h;rw[za2] at h;unfold VK at H;refine iu ⟨λ_ h=>h,λ_ h=>h,λ_ h=>h,λ_ h=>h,λ_ h=>h,λ_ h=>h,λ_ h=>h⟩ (λJ d _ _=> ?_) (λJ=> ?_)
 ·rw[J] at H;exact H
 ·simp only[h.1,h.2,zaQ,show ∀g,dC g true=true from λ_=>rfl,bE];rw[VH];rw[J] at H;have e:decide (0<b9 u.f rZ)= !decide (b9 u.f rZ<=0):=by
   rw[zax];simp
  rw[e] at H;refine⟨λq=> ?_,λq=> ?_⟩
  ·have:(true&&(rV u.f&&(rV u.o&&(!decide (b9 u.f rZ<=0)&&(aj u.k 0 100&&(u.s==0||eqU u (bT u.d u.f u.k)))))))=false:=by
    revert q;cases rV u.f<;>cases rV u.o<;>cases decide (b9 u.f rZ<=0)<;>cases aj u.k 0 100<;>simp
   rw[this] at H;exact H
  ·have:(true&&(rV u.f&&(rV u.o&&(!decide (b9 u.f rZ<=0)&&(aj u.k 0 100&&(u.s==0||eqU u (bT u.d u.f u.k)))))))=(u.s==0||eqU u (bT u.d u.f u.k)):=by
    revert q;cases rV u.f<;>cases rV u.o<;>cases decide (b9 u.f rZ<=0)<;>cases aj u.k 0 100<;>simp
   rw[this] at H;exact H
def g3:List (FuncId×Ctr):=(243,k1 cU cB aH VK)::g2
theorem WM:GOk g3:=
 WT.cons (λW H=>dD λu h=>WT.yields (ann:=noA) (n:=6) H m8 (cB.ids _) (by rw[Ic];exact yV _ (λr=>r=_) h rfl)) call243
theorem Eu (u:Un) (K:zdR):ig g3 noA 6 400 [cU.enc u] K=ah (aH u) (K (cB.enc (aU u))):=by kernel_rfl
def AZ (s:Int) (x y:Int×Int) (Q:Prop):Prop:=
 ah (inR .i64 (x.1*y.2)) (ah (inR .i64 (s*y.1)) (ah (inR .i64 (s*y.1*x.2)) (ah (inR .i64 (x.1*y.2+s*y.1*x.2)) (ah (inR .i64 (x.2*y.2))
  (ah (aj (x.1*y.2+s*y.1*x.2) (-1000000) 1000000&&aj (x.2*y.2) 1 1000000) Q)))))
theorem Id (a b:D7) (s:Int) (K:zdR):ig g3 noA 6 401 [c7.enc a,c7.enc b,cI.enc s] K=
 Q3 (AZ s) a b (ku (kw s) a b) (λ_ d=>K ((cP c7 cB).enc (d,false))) (K ((cP c7 cB).enc (ku (kw s) a b,true))):=by kernel_rfl
theorem j8 (h:aR p=true):(1<=p.2/\p.2<=12)/\ -12<=p.1/\p.1<=12:=by
 unfold aR at h;simp only[za2,VL] at h;exact⟨h.1,h.2.1⟩
variable {k:Int}
theorem tD {x y:Int} (h: -k<=x/\x<=k) (H:0<=k/\k<=1000) (J:1<=y/\y<=12): -(12*k)<=x*y/\x*y<=12*k:=by
 have:y=1\/y=2\/y=3\/y=4\/y=5\/y=6\/y=7\/y=8\/y=9\/y=10\/y=11\/y=12:=by omega
 rcases this with rfl|rfl|rfl|rfl|rfl|rfl|rfl|rfl|rfl|rfl|rfl|rfl<;>omega
variable {s:Int}
theorem j9 (Y:s=1\/s= -1) {x y:Int×Int} (hx:aR x=true) (hy:aR y=true) (Q:Prop) (N:Q):AZ s x y Q:=by
 have J:=j8 hx;have H:=j8 hy;have h1:=tD (k:=12) J.2 (by omega) H.1;have h2: -12<=s*y.1/\s*y.1<=12:=by rcases Y with rfl|rfl<;>omega
 have h3:=tD (k:=12) h2 (by omega) J.1;have h4:=tD (x:=x.2) (k:=12) (by omega) (by omega) H.1;have h5:0<x.2*y.2:=zaU (by omega) (by omega);unfold AZ;rw[VP.2 (by omega),VP.2 (by omega),VP.2 (by omega),VP.2 (by omega),VP.2 (by omega),VL.2 (by omega),VL.2 (by omega)];exact N
theorem i9 {d:D7} (h:eX d=true):aR d.d0=true/\aR d.d1=true/\aR d.d2=true/\aR d.d3=true/\aR d.d4=true/\aR d.d5=true/\aR d.d6=true:=by
 unfold eX at h;simpa only[za2] using h
theorem ay6 (H:s=1\/s= -1) {a b:D7} (ha:eX a=true) (hb:eX b=true):Oi (AZ s) a b:=by
 obtain⟨J,N,Y,a3,a4,a5,a6⟩:=i9 ha;obtain⟨b0,b1,b2,b3,b4,b5,b6⟩:=i9 hb;exact⟨j9 H J b0,j9 H N b1,j9 H Y b2,j9 H a3 b3,j9 H a4 b4,j9 H a5 b5,j9 H a6 b6⟩
theorem yW (hs:s=1\/s= -1) {a b:D7} (J:eX a=true) (N:eX b=true) (K:zdR) (H:K ((cP c7 cB).enc (km (ku (kw s) a b)))):
 Q3 (AZ s) a b (ku (kw s) a b) (λ_ d=>K ((cP c7 cB).enc (d,false))) (K ((cP c7 cB).enc (ku (kw s) a b,true))):=by
 refine iu (ay6 hs J N) (λ_ d Y _=> ?_) (λhf=> ?_)
 ·rw[Y] at H;exact H
 ·rw[ir hf] at H;exact H
def g4:List (FuncId×Ctr):=(400,k1 cU cB aH aU)::(401,k3 c7 c7 cI (cP c7 cB) (λa b s=>eX a&&eX b&&(s==1||s== -1)) (λa b s=>km (ku (kw s) a b)))::g3
theorem WC:GOk g4:=
 (WM.cons (λW H=>sQ λa b s h=>by
     simp only[za2,zav,zdx] at h
     exact WM.yields (ann:=noA) (n:=6) H AW ((cP c7 cB).ids _) (by rw[Id];exact yW h.2 h.1.1 h.1.2 (λr=>r=_) rfl)) call401).cons
   (λW H=>dD λu h=>WM.yields (ann:=noA) (n:=6) H m8 (cB.ids _) (by rw[Eu,h];exact rfl)) call400
theorem TE {s:zdG} (h:vS s=true):uz s=true:=zdp (Xq h)
theorem Ie {a:RS} (h:rV a=true):uzR a=true:=by
 have:=ay h;unfold uzR;rw[TE this.1,TE this.2.1];rfl
theorem tF:uzR noR=true:=by decide
theorem alg (n d:Int):uzR (rMk n d).1=true:=by
 rcases uQ n d with ⟨_,_,_,h⟩|⟨_,h⟩
 ·exact Ie h.valid
 ·rw[h];exact tF
theorem Lq (a b:RS):uzR (fZ a b).1=true:=by unfold fZ;split;exact alg _ _;exact tF
theorem Lr (a b:RS):uzR (iF a b).1=true:=by unfold iF;split;exact alg _ _;exact tF
theorem gI (a b:RS):uzR (ale a b).1=true:=by unfold ale;split;exact alg _ _;exact tF
theorem lY (a b:RS):uzR (cA a b).1=true:=by unfold cA;split;exact alg _ _;exact tF
def tG (s:Int) (op:RS->RS->RS×Int) (a b:Un) (k:Int) (K:zdR):Prop:=
 ah (eX a.d&&eX b.d&&true) (ah (uzR a.f&&uzR b.f) (ag (!(km (ku (kw s) a.d b.d)).2||(op a.f b.f).2 !=0) (K ((cP cU cI).enc (noU,70)))
  (K ((cP cU cI).enc (bT (km (ku (kw s) a.d b.d)).1 (op a.f b.f).1 k,0)))))
def vE (p q:Bool) (a b:Un) (T:Prop):Prop:=ah (aH a) (ah (dC p (aH b)) T)
def PU (a b:Un) (K:zdR):Prop:=vE (!!aU a) true a b (ag (!aU a|| !aU b) (K ((cP cU cI).enc (noU,70)))
 (ag (2==b.s) (tG 1 ale a b a.k K) (ag (2==a.s) (tG 1 ale a b b.k K) (tG 1 ale a b 0 K))))
def PV (a b:Un) (K:zdR):Prop:=vE (!!aU a) true a b (ag (!aU a|| !aU b) (K ((cP cU cI).enc (noU,70)))
 (ag (b.s==2) (tG (-1) cA a b a.k K) (tG (-1) cA a b 0 K)))
theorem Oj (a b:Un) (K:zdR):ig g4 noA 6 387 [cU.enc a,cU.enc b] K=PU a b K:=by kernel_rfl
theorem Ok (a b:Un) (K:zdR):ig g4 noA 6 388 [cU.enc a,cU.enc b] K=PV a b K:=by kernel_rfl
def PW (a b:Un) (K:zdR):Prop:=vE (VK a) true a b (ag (!jk a b||(a.s==0&&b.s==0)) (K ((cP cU cI).enc (noU,70))) (ag (b.s==0) (K ((cP cU cI).enc (b,0))) (K ((cP cU cI).enc (a,0)))))
def M4 (a b:Un) (K:zdR):Prop:=vE (VK a) true a b (ag (!jk a b) (K ((cP cU cI).enc (noU,70))) (ag (b.s !=0) (K ((cP cU cI).enc (a,0)))
 (ag (eqU a b) (K ((cP cU cI).enc (bT a.d a.f a.k,0))) (K ((cP cU cI).enc (noU,70))))))
theorem Ol (a b:Un) (K:zdR):ig g4 noA 6 385 [cU.enc a,cU.enc b] K=PW a b K:=by kernel_rfl
theorem Ls (a b:Un) (K:zdR):ig g4 noA 6 386 [cU.enc a,cU.enc b] K=M4 a b K:=by kernel_rfl
variable {q:Bool} {a b:Un}
theorem oz {p:Bool} (h:(aH a&&aH b)=true) (H:T):vE p q a b T:=by
 rw[za2] at h;unfold vE;rw[h.1,h.2];exact H
variable {u:Un}
theorem eL (h:aH u=true):uzR u.f=true/\uzR u.o=true:=by
 unfold aH at h;simpa using h
variable {K:zdR}
theorem m9 {op:RS->RS->RS×Int} (h:(aH a&&aH b)=true) (J:eX a.d=true) (N:eX b.d=true) (H:K ((cP cU cI).enc (qi (km (ku (kw s) a.d b.d)) (op a.f b.f) k))):tG s op a b k K:=by
 rw[za2] at h;unfold tG;rw[J,N,(eL h.1).1,(eL h.2).1];simp only[zc5,bE];rw[VH];unfold qi at H;refine⟨λq=> ?_,λq=> ?_⟩<;>(rw[q] at H;exact H)
theorem tH (h:VK u=true):eX u.d=true:=by
 unfold VK at h;rw[za2] at h;exact h.1
theorem bP (h:aU u=true):eX u.d=true:=by
 unfold aU at h;rw[za2] at h;exact tH h.1
theorem If {p:Bool} (h:(!p|| !q)=false):p=true/\q=true:=by cases p<;>cases q<;>simp_all
theorem Ev (h:(aH a&&aH b)=true) (H:K ((cP cU cI).enc (mi a b))):PU a b K:=by
 refine oz h ?_;unfold mi at H;rw[VH];refine⟨λq=>(by rw[q] at H;exact H),λq=> ?_⟩;rw[q,zdq] at H;have f:=If q;rw[VH];refine⟨λJ=> ?_,λJ=> ?_⟩
 ·rw[J] at H;exact m9 h (bP f.1) (bP f.2) H
 ·rw[J] at H;rw[VH];refine⟨λN=> ?_,λN=> ?_⟩<;>(rw[N] at H;exact m9 h (bP f.1) (bP f.2) H)
theorem Ew (h:(aH a&&aH b)=true) (H:K ((cP cU cI).enc (aAO a b))):PV a b K:=by
 refine oz h ?_;unfold aAO at H;rw[VH];refine⟨λq=>(by rw[q] at H;exact H),λq=> ?_⟩;rw[q,zdq] at H;have f:=If q;rw[VH];refine⟨λJ=> ?_,λJ=> ?_⟩<;>(rw[J] at H;exact m9 h (bP f.1) (bP f.2) H)
theorem Ez (h:(aH a&&aH b)=true) (H:K ((cP cU cI).enc (iS a b))):PW a b K:=by
 refine oz h ?_;unfold iS at H;rw[VH];refine⟨λq=>(by rw[q] at H;exact H),λq=> ?_⟩;rw[q,zdq] at H;rw[VH];refine⟨λJ=> ?_,λJ=> ?_⟩<;>(rw[J] at H;exact H)
theorem aAQ (h:(aH a&&aH b)=true) (H:K ((cP cU cI).enc (fw a b))):M4 a b K:=by
 refine oz h ?_;unfold fw at H;rw[VH];refine⟨λq=>(by rw[q] at H;exact H),λq=> ?_⟩;rw[q,zdq] at H;rw[VH];refine⟨λJ=>(by rw[J] at H;exact H),λJ=> ?_⟩;rw[J,zdq] at H;rw[VH];refine⟨λq4=> ?_,λq4=> ?_⟩<;>(rw[q4] at H;exact H)
def g4c:List (FuncId×Ctr):=g4
theorem WU:GOk g4c:=WC
def g5:List (FuncId×Ctr):=
 (387,k2 cU cU (cP cU cI) (λa b=>aH a&&aH b) mi)::(388,k2 cU cU (cP cU cI) (λa b=>aH a&&aH b) aAO)::
 (385,k2 cU cU (cP cU cI) (λa b=>aH a&&aH b) iS)::(386,k2 cU cU (cP cU cI) (λa b=>aH a&&aH b) fw)::g4c
theorem Xa:GOk g5:=
 ((((WU.cons (λW H=>bC λa b h=>WC.yields (ann:=noA) (n:=6) H de ((cP cU cI).ids _) (by rw[Ls];exact aAQ (K:=λr=>r=_) h rfl)) call386).cons
   (λW H=>bC λa b h=>WC.yields (ann:=noA) (n:=6) H de ((cP cU cI).ids _) (by rw[Ol];exact Ez (K:=λr=>r=_) h rfl)) call385).cons
   (λW H=>bC λa b h=>WC.yields (ann:=noA) (n:=6) H de ((cP cU cI).ids _) (by rw[Ok];exact Ew (K:=λr=>r=_) h rfl)) call388)).cons
   (λW H=>bC λa b h=>WC.yields (ann:=noA) (n:=6) H de ((cP cU cI).ids _) (by rw[Oj];exact Ev (K:=λr=>r=_) h rfl)) call387
def A4 (p x:Int×Int):Int×Int:=qG (x.1*p.1) (x.2*p.2)
def wV (p:Int×Int) (a:D7):D7:=⟨A4 p a.d0,A4 p a.d1,A4 p a.d2,A4 p a.d3,A4 p a.d4,A4 p a.d5,A4 p a.d6⟩
def acV (f:RS) (x:Bool×RS):Bool×RS:=bif !x.1 then(x.1||(ale x.2 f).2 !=0,(ale x.2 f).1) else x
def bV (f:RS):Nat->Bool×RS
 |0=>(false,rI)
 |n+1=>acV f (bV f n)
def tI (n:Int) (x:Bool×RS):Bool×RS:=bif decide (n<0)&& !x.1 then((cA rI x.2).2 !=0,(cA rI x.2).1) else x
def cC (n:Int):Int:=if -n>n then -n else n
def jm (a:Un) (p:Int×Int):Un×Int:=
 bif !aU a|| !aR p||(p.2 !=1&& !eqR a.f rI) then(noU,70) else
 bif !(km (wV p a.d)).2||(tI p.1 (bif p.2==1 then bV a.f p.1.natAbs else(false,rI))).1 then(noU,70) else
 (bT (km (wV p a.d)).1 (tI p.1 (bif p.2==1 then bV a.f p.1.natAbs else(false,rI))).2 (bif eq2 p (1,1) then a.k else 0),0)
def kA (A:AS) (t:Nat):Nat:=match A.tm t with
 | .v (.ptr i _ _)=>i
 |_=>0
abbrev PX:=Int×Bool×RS
def Ig (x:Bool×RS):zdJ:= [.val (.bool x.1), .val (.string x.2.1), .val (.string x.2.2)]
def Ih (I:PX->Prop) (N:Int):zdV:=λf k=>bif Nat.beq f 389&&Nat.beq k 7 then some (λA=>{X:=PX,inv:=I,tm:=λx=> [(47, .val (.int .i64 x.1))],st:= [(kA A 8,λx=>Ig x.2)],mu:=λx=>(N - x.1).toNat,keep:= [2,3,4,5,6,7,8,46]}) else none
def wW (a:Un) (p:Int×Int) (d:D7) (ok:Bool) (x:Bool×RS) (K:zdR):Prop:=
 ag (eq2 p (1,1)) (ag (!ok||x.1) (K ((cP cU cI).enc (noU,70))) (K ((cP cU cI).enc (bT d x.2 a.k,0)))) (ag (!ok||x.1) (K ((cP cU cI).enc (noU,70))) (K ((cP cU cI).enc (bT d x.2 0,0))))
def wX (a:Un) (p:Int×Int) (d:D7) (ok:Bool) (x:Bool×RS) (K:zdR):Prop:=
 ag (decide (p.1<0)&& !x.1) (ah (uzR rI&&uzR x.2) (wW a p d ok ((cA rI x.2).2 !=0,(cA rI x.2).1) K)) (wW a p d ok x K)
def cg (i:Nat):Prop:=TV.v (SV.ptr i 0 0)=TV.v (SV.ptr i 0 0)
def Lt (H i8:Nat) (ok:Bool) (n:Int) (q:PX) (z:PX):Prop:=
 (TV.v (cI.enc q.1)=TV.v (cI.enc z.1)/\cg 0/\cg 1/\cg 2/\(TV.v (cI.enc 0)=TV.v (cI.enc 0))/\cg H/\(TV.v (cB.enc ok)=TV.v (cB.enc ok))/\cg i8/\(TV.v (cI.enc (cC n))=TV.v (cI.enc (cC n)))/\True)/\
 (True/\((Ig q.2=Ig z.2/\True)/\True))
def Lu (I:PX->Prop) (N:Int) (a:Un) (p:Int×Int) (J i8:Nat) (d:D7) (ok:Bool) (K:zdR):Prop:=
 ag (p.2==1) (ah (inR .i64 (-p.1)) (∃z0:PX,I z0/\Lt J i8 ok p.1 (0,false,rI) z0/\ ∀H:PX,I H->
  ag (decide (H.1<cC p.1))
   (ag (!H.2.1) (ah (uzR H.2.2&&uzR a.f) (ah (inR .i64 (H.1+1)) (∃Y:PX,I Y/\(N - Y.1).toNat<(N - H.1).toNat/\Lt J i8 ok p.1 (H.1+1,H.2.1||(ale H.2.2 a.f).2 !=0,(ale H.2.2 a.f).1) Y)))
     (ah (inR .i64 (H.1+1)) (∃z3:PX,I z3/\(N - z3.1).toNat<(N - H.1).toNat/\Lt J i8 ok p.1 (H.1+1,H.2) z3)))
   (wX a p d ok H.2 K)))
  (wX a p d ok (false,rI) K)
def Ii (p:Int×Int) (x _y:Int×Int) (Q:Prop):Prop:=ah (inR .i64 (x.1*p.1)) (ah (inR .i64 (x.2*p.2)) (ah (aj (x.1*p.1) (-1000000) 1000000&&aj (x.2*p.2) 1 1000000) Q))
def Om (I:PX->Prop) (N:Int) (a:Un) (p:Int×Int) (K:zdR):Prop:=
 ah (aH a) (ag (!aU a|| !aR p||(p.2 !=1&& !eqR a.f rI)) (K ((cP cU cI).enc (noU,70)))
  (Q3 (Ii p) a.d a.d (wV p a.d) (λk d=>Lu I N a p (66+34*k) (74+34*k) d false K) (Lu I N a p 273 281 (wV p a.d) true K)))
theorem On (I:PX->Prop) (N:Int) (a:Un) (p:Int×Int) (K:zdR):ig g4 (Ih I N) 8 389 [cU.enc a,c22.enc p] K=Om I N a p K:=by kernel_rfl
def Lv (a:Un) (p:Int×Int) (d:D7) (ok:Bool) (x:Bool×RS):Un×Int:=bif !ok||x.1 then(noU,70) else(bT d x.2 (bif eq2 p (1,1) then a.k else 0),0)
variable {a:Un} {p:Int×Int} {d:D7} {ok:Bool} {x:Bool×RS} {K:zdR}
theorem EA (h:K ((cP cU cI).enc (Lv a p d ok x))):wW a p d ok x K:=by
 unfold Lv at h;unfold wW;rw[VH];refine⟨λq=> ?_,λq=> ?_⟩<;>(rw[VH];refine⟨λr=> ?_,λr=> ?_⟩<;>(rw[q,r] at h;exact h))
theorem vG (H:uzR x.2=true) (h:K ((cP cU cI).enc (Lv a p d ok (tI p.1 x)))):wX a p d ok x K:=by
 unfold tI at h;unfold wX;rw[H,VH];refine⟨λq=> ?_,λq=> ?_⟩<;>(rw[q] at h;exact EA h)
theorem pE (H i8:Nat) (ok:Bool) (n:Int) (q:PX):Lt H i8 ok n q q:=⟨⟨rfl,rfl,rfl,rfl,rfl,rfl,rfl,rfl,rfl,trivial⟩,trivial,⟨rfl,trivial⟩,trivial⟩
theorem Ij:uzR rI=true:=by decide
theorem XV (f:RS): ∀n,uzR (bV f n).2=true
 |0=>Ij
 |n+1=>by
  unfold bV acV;cases h: !(bV f n).1 with
  |true=>exact gI _ _
  |false=>exact XV f n
def Oo (f:RS) (N:Int) (x:PX):Prop:=0<=x.1/\x.1<=N/\x.2=bV f x.1.toNat
theorem CG {i6 i8:Nat} (hp: -12<=p.1/\p.1<=12) (Y:uzR a.f=true)
 (h:K ((cP cU cI).enc (Lv a p d ok (tI p.1 (bif p.2==1 then bV a.f p.1.natAbs else(false,rI)))))):Lu (Oo a.f (cC p.1)) (cC p.1) a p i6 i8 d ok K:=by
 have hm:0<=cC p.1/\cC p.1<=12/\(cC p.1).toNat=p.1.natAbs:=by
  unfold cC;split<;>omega
 unfold Lu;rw[VH];refine⟨λq=> ?_,λq=> ?_⟩
 ·rw[q] at h;rw[VP.2 (by omega),bE];refine⟨(0,false,rI),⟨zat _,hm.1,rfl⟩,pE _ _ _ _ _, ?_⟩;rintro⟨k,x⟩ ⟨h0,h1,h2⟩;simp only at h0 h1 h2 ⊢;have e:(k+1).toNat=k.toNat+1:=by omega
  rw[VH];refine⟨λH=> ?_,λH=> ?_⟩
  ·have H:k<cC p.1:=zdu H;rw[VH];refine⟨λJ=> ?_,λJ=> ?_⟩
   ·rw[show uzR x.2=true by rw[h2];exact XV _ _,Y,VP.2 (by omega)];refine⟨(k+1,x.1||(ale x.2 a.f).2 !=0,(ale x.2 a.f).1),⟨by simp only;omega,by simp only;omega, ?_⟩,by simp only;omega,pE _ _ _ _ _⟩;simp only;rw[e];unfold bV acV;rw[<-h2,J,zdr]
   ·rw[VP.2 (by omega)];refine⟨(k+1,x),⟨by simp only;omega,by simp only;omega, ?_⟩,by simp only;omega,pE _ _ _ _ _⟩;simp only;rw[e];unfold bV acV;rw[<-h2,J,zdq]
  ·have H: ¬k<cC p.1:=zdv H;have N:k.toNat=p.1.natAbs:=by omega
   rw[N] at h2;rw[zdr,<-h2] at h;exact vG (by rw[h2];exact XV _ _) h
 ·rw[q] at h;exact vG Ij h
theorem XL {x:Int×Int} (hp:aR p=true) (hx:aR x=true) (y:Int×Int) (Q:Prop) (Y:Q):Ii p x y Q:=by
 have J:=j8 hp;have H:=j8 hx;have h1: -(12*12)<=p.1*x.2/\p.1*x.2<=12*12:=tD (k:=12) J.2 (by omega) H.1;have h2:=tD (x:=x.2) (k:=12) (by omega) (by omega) J.1;have h3:0<x.2*p.2:=zaU (by omega) (by omega);have h4: -144<=x.1*p.1/\x.1*p.1<=144:=by
  rcases Int.le_total 1 p.1 with h|h
  ·exact tD (k:=12) H.2 (by omega) (by omega)
  ·rcases Int.le_total p.1 (-1) with N|N
   ·have:=tD (x:=x.1) (y:= -p.1) (k:=12) H.2 (by omega) (by omega);rw[zbM] at this;omega
   ·have:p.1=0\/p.1=1\/p.1= -1:=by omega
    rcases this with e|e|e<;>rw[e]<;>omega
 unfold Ii;rw[VP.2 (by omega),VP.2 (by omega),VL.2 (by omega),VL.2 (by omega)];exact Y
theorem yX (hp:aR p=true) {a:D7} (ha:eX a=true):Oi (Ii p) a a:=by
 obtain⟨H,J,N,Y,a4,a5,a6⟩:=i9 ha;exact⟨XL hp H _,XL hp J _,XL hp N _,XL hp Y _,XL hp a4 _,XL hp a5 _,XL hp a6 _⟩
theorem EB (h:aH a=true) (H:K ((cP cU cI).enc (jm a p))):Om (Oo a.f (cC p.1)) (cC p.1) a p K:=by
 unfold jm at H;unfold Om;rw[h,bE,VH];refine⟨λq=>(by rw[q] at H;exact H),λq=> ?_⟩;rw[q,zdq] at H;have J:aU a=true/\aR p=true:=by
  revert q;cases aU a<;>cases aR p<;>simp
 have hp:=(j8 J.2).2;refine iu (yX J.2 (bP J.1)) (λ_ d N k=> ?_) (λY=> ?_)
 ·rw[N] at H;exact CG hp (eL h).1 H
 ·rw[ir Y] at H;exact CG hp (eL h).1 H
def g6:List (FuncId×Ctr):=(389,k2 cU c22 (cP cU cI) (λa _=>aH a) jm)::g5
theorem Wv:GOk g6:=
 Xa.cons (λW H=>bC λa p h=>WC.yields (ann:=Ih (Oo a.f (cC p.1)) (cC p.1)) (n:=8) H de ((cP cU cI).ids _) (by rw[On];exact EB (K:=λr=>r=_) h rfl)) Tryz.call389
def at5 (d:D7):Bool:=d.d0.1==0&&(d.d1.1==0&&(d.d2.1==0&&(d.d3.1==0&&(d.d4.1==0&&(d.d5.1==0&&d.d6.1==0)))))
def dV (d:D7) (f:RS) (k:Int):Un:=⟨d,f,rZ,k,bif at5 d&&k==0 then 2 else 1⟩
def co (c n:Int):Int:=(bif decide (c<0) then -(c+1) else c).tmod n
def Oq:List FuncId:= [201,272,199,331,311,310,275,273,274,200,104,202,203,107,106,241,309,239,240
 ]
abbrev gJ (g:List (FuncId×Ctr)) (ann:zdV) (n:Nat) (f:FuncId) (args:zdJ) (K:zdR):Prop:=wq prog (iR Oq) (gw g) (gx []) ann n f args (λ_=>none) 0 [] (okK λr _ _ _=>K r)
theorem Lw: ∀f∈Oq,Callable prog f:=by
 simp only[Oq,zc2,zck]
 exact⟨call201,call272,call199,call331,call311,call310,call275,call273,call274,call200,call104,call202,call203,call107,call106,call241,call309,call239,call240
 ,λ_ h=>by cases h⟩
theorem GOk.yieldsV {g:List (FuncId×Ctr)} {W0:World} (h:GOk g) (hg:GlobU W0) {ann:zdV} {n:Nat} {F:FuncId} {args:zdJ} {r:SV} (J:SV.idss args= []) (Y:r.ids= []) (H:gJ g ann n F args λs=>s=r):Go.Sy.Yields prog W0 F args r:=
 cr (λW N=>mW (h.all W (hg.below N)) (λ_ _ _ h=>by cases h) Lw (by kernel_rfl)) J Y H
theorem Ot (K:zdR):gJ qH noA 3 201 [] K=K (cR.enc rI):=by kernel_rfl
theorem Lx (K:zdR):gJ qH noA 3 272 [] K=K (cR.enc rZ):=by kernel_rfl
def M5 (d:D7) (P Q:Prop):Prop:=ag (d.d0.1 !=0) Q (ag (d.d1.1 !=0) Q (ag (d.d2.1 !=0) Q (ag (d.d3.1 !=0) Q (ag (d.d4.1 !=0) Q (ag (d.d5.1 !=0) Q (ag (d.d6.1 !=0) Q P))))))
theorem Ly (d:D7) (K:zdR):gJ qH noA 3 273 [c7.enc d] K=M5 d (K (cB.enc true)) (K (cB.enc false)):=by kernel_rfl
variable {n:Int}
theorem iw {f:Bool->Prop} {b:Bool} {P Q:Prop} (H:f (n==0&&b)) (N:f false->Q) (J:f b->P):ag (n !=0) Q P:=by
 unfold bne;cases e:n==0 with
 |true=>rw[e] at H;exact J H
 |false=>rw[e] at H;exact N H
variable {K:zdR}
theorem A5 {d:D7} (H:K (cB.enc (at5 d))):M5 d (K (cB.enc true)) (K (cB.enc false)):=
 iw (f:=λb=>K (cB.enc b)) H id λh=>iw (f:=λb=>K (cB.enc b)) h id λh=>iw (f:=λb=>K (cB.enc b)) h id λh=>iw (f:=λb=>K (cB.enc b)) h id λh=>
  iw (f:=λb=>K (cB.enc b)) h id λh=>iw (f:=λb=>K (cB.enc b)) h id λh=>iw (f:=λb=>K (cB.enc b)) (b:=true) (by rw[zaQ];exact h) id id
def vH (c n:Int) (K:zdR):Prop:=ag (decide (c<0)) (ah (inR .i64 (c+1)) (ah (inR .i64 (-(c+1))) (ah (!decide (n=0)) (K (cI.enc ((-(c+1)).tmod n)))))) (ah (!decide (n=0)) (K (cI.enc (c.tmod n))))
theorem aJ7 {c:Int} (J:cl c=true) (N:0<n) (H:K (cI.enc (co c n))):vH c n K:=by
 have J:=V4.1 J;unfold co at H;unfold vH;rw[VH,zds (by omega: ¬n=0)];refine⟨λq=> ?_,λq=> ?_⟩
 ·rw[q] at H;have:=zdu q;rw[VP.2 (by omega),VP.2 (by omega)];exact H
 ·rw[q] at H;exact H
def h0:List (FuncId×Ctr):=qH
theorem Xb:GOk h0:=Wr
def h1:List (FuncId×Ctr):=(201,k0 cR rI)::(272,k0 cR rZ)::(273,k1 c7 cB (λ_=>true) at5)::h0
theorem WV:GOk h1:=
 ((Xb.cons (λW H=>dD λd _=>Wr.yieldsV (ann:=noA) (n:=3) H m8 (cB.ids _) (by rw[Ly];exact A5 (K:=λr=>r=_) rfl)) call273).cons
   (λW H=>GF (Wr.yieldsV (ann:=noA) (n:=3) H NU (cR.ids _) (by rw[Lx]))) call272).cons
   (λW H=>GF (Wr.yieldsV (ann:=noA) (n:=3) H NU (cR.ids _) (by rw[Ot]))) call201
theorem EC (d:D7) (f:RS) (k:Int) (K:zdR):gJ h1 noA 3 200 [c7.enc d,cR.enc f,cI.enc k] K=
 ag (at5 d&&k==0) (K (cU.enc ⟨d,f,rZ,k,2⟩)) (K (cU.enc ⟨d,f,rZ,k,1⟩)):=by kernel_rfl
theorem wY (d:D7) (f:RS) (k:Int) (K:zdR) (H:K (cU.enc (dV d f k))):ag (at5 d&&k==0) (K (cU.enc ⟨d,f,rZ,k,2⟩)) (K (cU.enc ⟨d,f,rZ,k,1⟩)):=by
 rw[VH];unfold dV at H;refine⟨λh=> ?_,λh=> ?_⟩<;>(rw[h] at H;exact H)
def h1o:List (FuncId×Ctr):=h1
theorem WW:GOk h1o:=WV
def h2:List (FuncId×Ctr):=(200,k3 c7 cR cI cU (λ_ _ _=>true) dV)::h1o
theorem WN:GOk h2:=
 WW.cons (λW H=>sQ λd f k _=>WV.yieldsV (ann:=noA) (n:=3) H AW (cU.ids _) (by rw[EC];exact wY _ _ _ (λr=>r=_) rfl)) Tryz.call200
def am8 (a b:Int):Int:=Int.gcd a b
def Ik (I:Int×Int->Prop):zdV:=λf k=>bif Nat.beq f 331&&Nat.beq k 1 then some (λ_=>{X:=Int×Int,inv:=I,tm:=λx=> [(0, .val (.int .i64 x.1)),(1, .val (.int .i64 x.2))],mu:=λx=>x.2.toNat,keep:= [4]}) else none
def PY (p q:Int) (z:Int×Int):Prop:=(TV.v (cI.enc p)=TV.v (cI.enc z.1)/\(TV.v (cI.enc q)=TV.v (cI.enc z.2))/\(TV.v (cI.enc 0)=TV.v (cI.enc 0))/\True)/\(True/\(True/\True))
def Ou (I:Int×Int->Prop) (a b:Int) (K:zdR):Prop:=
 ∃N:Int×Int,I N/\PY a b N/\ ∀H:Int×Int,I H->
  ag (H.2 !=0) (ah (!decide (H.2=0)) (∃J:Int×Int,I J/\(J.2.toNat<H.2.toNat)/\PY H.2 (H.1.tmod H.2) J)) (K (cI.enc H.1))
theorem Ov (I:Int×Int->Prop) (a b:Int) (K:zdR):gJ h2 (Ik I) 3 331 [cI.enc a,cI.enc b] K=Ou I a b K:=by kernel_rfl
theorem Ow (n:Int) (K:zdR):gJ h2 noA 3 311 [cI.enc n] K=ah (inR .i64 (-n)) (K (cI.enc (cC n))):=by kernel_rfl
theorem ED {a b:Int} (N:0<=a/\a<=1000000) (H:0<=b/\b<=1000000) (K:zdR) (J:K (cI.enc (am8 a b))):Ou (Lm a b) a b K:=by
 unfold Ou;refine⟨(a,b),⟨N,H,rfl⟩,⟨⟨rfl,rfl,rfl,trivial⟩,trivial,trivial,trivial⟩, ?_⟩;rintro⟨x,y⟩ ⟨⟨h1,h2⟩,⟨h3,h4⟩,h5⟩;simp only at h1 h2 h3 h4 h5 ⊢;rw[VH];refine⟨λH=> ?_,λH=> ?_⟩
 ·have H:y≠0:=by simpa using H
  rw[zds H,zbg,bE];have:=zcn x (show 0<y by omega);have h0:=zco y h1;exact⟨(y,x.tmod y),⟨⟨h3,h4⟩,⟨h0,by simp only;omega⟩,by simp only;rw[yT h1 (by omega)];exact h5⟩,by simp only;omega,⟨rfl,rfl,rfl,trivial⟩,trivial,trivial,trivial⟩
 ·have H:y=0:=by simpa using H
  subst H;rw[Int.gcd_zero_right] at h5;have e:x=am8 a b:=by unfold am8;omega
  rw[e];exact J
def h3:List (FuncId×Ctr):=(331,k2 cI cI cI (λa b=>aj a 0 1000000&&aj b 0 1000000) am8)::(311,k1 cI cI (λn=>aj n (-1000000) 1000000) cC)::h2
theorem WO:GOk h3:=
 (WN.cons (λW H=>dD λn h=>WN.yieldsV (ann:=noA) (n:=3) H m8 (cI.ids _) (by
     have h:=VL.1 h
     rw[Ow,VP.2 (by omega),bE])) Tryz.call311).cons
   (λW H=>bC λa b h=>by
     simp only[za2,VL] at h
     exact WN.yieldsV (ann:=Ik (Lm a b)) (n:=3) H de (cI.ids _) (by rw[Ov];exact ED h.1 h.2 (λr=>r=_) rfl)) Tryz.call331
def P2 (p:Int×Int):Bool×Bool:=bif !aj p.2 1 12|| !aj p.1 (-12) 12 then(false,false) else(am8 (cC p.1) p.2==1,p.1==0)
theorem tJ (a b c:Int) (K:zdR):gJ h3 noA 3 199 [cI.enc a,cI.enc b,cI.enc c] K=K (cB.enc (aj a b c)):=by kernel_rfl
def h4:List (FuncId×Ctr):=(199,k3 cI cI cI cB (λ_ _ _=>true) aj)::h3
theorem WY:GOk h4:=
 WO.cons (λW H=>sQ λa b c _=>WO.yieldsV (ann:=noA) (n:=3) H AW (cB.ids _) (by rw[tJ])) call199
def A7 (p:Int×Int) (K:zdR):Prop:=ag (!aj p.2 1 12|| !aj p.1 (-12) 12) (K ((cP cB cB).enc (false,false)))
 (ah (aj p.1 (-1000000) 1000000) (ah (aj (cC p.1) 0 1000000&&aj p.2 0 1000000) (K ((cP cB cB).enc (am8 (cC p.1) p.2==1,p.1==0)))))
theorem Il (p:Int×Int) (K:zdR):gJ h4 noA 3 310 [c22.enc p] K=A7 p K:=by kernel_rfl
variable {K:zdR}
theorem yY {p:Int×Int} (H:K ((cP cB cB).enc (P2 p))):A7 p K:=by
 unfold P2 at H;unfold A7;rw[VH];refine⟨λq=>(by rw[q] at H;exact H),λq=> ?_⟩;rw[q,zdq] at H;have b:=If q;rw[VL,VL] at b;have J:0<=cC p.1/\cC p.1<=12:=by
  unfold cC;split<;>omega
 rw[VL.2 (by omega),VL.2 (by omega),VL.2 (by omega)];exact H
def h5:List (FuncId×Ctr):=(310,k1 c22 (cP cB cB) (λ_=>true) P2)::h4
theorem WZ:GOk h5:=
 WY.cons (λW H=>dD λp _=>WY.yieldsV (ann:=noA) (n:=3) H m8 ((cP cB cB).ids _) (by rw[Il];exact yY (K:=λr=>r=_) rfl)) call310
theorem yZ (n d:Int):Int.gcd (cC n) d=Int.gcd n d:=by
 unfold cC;split
 ·rw[Int.neg_gcd]
 ·rfl
theorem lx (p:Int×Int):(P2 p).1=aR p:=by
 unfold P2 aR;cases h1:aj p.2 1 12 with
 |false=>rfl
 |true=>
 cases h2:aj p.1 (-12) 12 with
 |false=>rfl
 |true=>
 have b:=VL.1 h1;simp only[zbh,Bool.or_self,zdq,zb6];rw[zax,zdx,zdt];unfold am8 qG;rw[yZ];have hg:0<Int.gcd p.1 p.2:=zc3 _ (by omega);constructor
 ·intro h;rw[h,Int.tdiv_one,Int.tdiv_one]
 ·intro h;have h2:p.2.tdiv (Int.gcd p.1 p.2:Int)=p.2:=congrArg Prod.snd h;by_cases hh:Int.gcd p.1 p.2=1
  ·omega
  ·have e:(p.2.tdiv (Int.gcd p.1 p.2:Int)).natAbs<p.2.natAbs:=by
    rw[Int.natAbs_tdiv];exact zc6 (by omega) (by omega)
   omega
def wZ (n d:Int) (K:zdR):Prop:=
 ah (aj n (-1000000) 1000000) (ah (aj (cC n) 0 1000000&&aj d 0 1000000) (ah (!decide (am8 (cC n) d=0)&&inR .i64 (n.tdiv (am8 (cC n) d))) (ah (!decide (am8 (cC n) d=0)&&inR .i64 (d.tdiv (am8 (cC n) d)))
  (K ((cP c22 cB).enc ((n.tdiv (am8 (cC n) d),d.tdiv (am8 (cC n) d)),(P2 (n.tdiv (am8 (cC n) d),d.tdiv (am8 (cC n) d))).1))))))
theorem EE (n d:Int) (K:zdR):gJ h5 noA 3 275 [cI.enc n,cI.enc d] K=wZ n d K:=by kernel_rfl
theorem w8 {n d:Int} (hn: -1000000<=n/\n<=1000000) (N:1<=d/\d<=1000000) (H:K ((cP c22 cB).enc (qG n d,aR (qG n d)))):wZ n d K:=by
 have hg:0<Int.gcd n d:=zc3 _ (by omega);have Y:0<=cC n/\cC n<=1000000:=by
  unfold cC;split<;>omega
 have e:am8 (cC n) d=(Int.gcd n d:Int):=by unfold am8;rw[yZ]
 have J:=zcp n (Int.gcd n d);have e2:=zcp d (Int.gcd n d);unfold wZ;rw[e,VL.2 (by omega),VL.2 (by omega),VL.2 (by omega),zds (by omega: ¬(Int.gcd n d:Int)=0),VP.2 (by omega),VP.2 (by omega),lx];exact H
def h6:List (FuncId×Ctr):=(275,k2 cI cI (cP c22 cB) (λn d=>aj n (-1000000) 1000000&&aj d 1 1000000) (λn d=>(qG n d,aR (qG n d))))::h5
theorem W8:GOk h6:=
 WZ.cons (λW H=>bC λn d h=>by
  simp only[za2,VL] at h
  exact WZ.yieldsV (ann:=noA) (n:=3) H de ((cP c22 cB).ids _) (by rw[EE];exact w8 h.1 h.2 (K:=λr=>r=_) rfl)) call275
def CH (u:Un):Bool:=rV u.f&&(rV u.o&&(decide (0<b9 u.f rZ)&&(aj u.k 0 100&&(aj u.s 0 2&&(u.s==0||(eqR u.o rZ&&((at5 u.d&&u.k==0)==(u.s==2))))))))
def iy (u:Un):Bool:=eX u.d&&CH u
def CJ (u:Un) (K:zdR):Prop:=ah (uzR u.f) (ah (uzR u.o) (ah (dC (!(!rV u.f|| !rV u.o)) (uzR u.f&&true))
 (ag (!rV u.f|| !rV u.o||decide (b9 u.f rZ<=0)|| !aj u.k 0 100|| !aj u.s 0 2) (K (cB.enc false)) (ag (u.s==0) (K (cB.enc true)) (K (cB.enc (eqR u.o rZ&&((at5 u.d&&u.k==0)==(u.s==2)))))))))
def aJm (u:Un) (K:zdR):Prop:=
 ag (!(P2 u.d.d0).1) (K (cB.enc false)) (ag (!(P2 u.d.d1).1) (K (cB.enc false)) (ag (!(P2 u.d.d2).1) (K (cB.enc false)) (ag (!(P2 u.d.d3).1) (K (cB.enc false))
 (ag (!(P2 u.d.d4).1) (K (cB.enc false)) (ag (!(P2 u.d.d5).1) (K (cB.enc false)) (ag (!(P2 u.d.d6).1) (K (cB.enc false)) (CJ u K)))))))
theorem EF (u:Un) (K:zdR):gJ h6 noA 3 274 [cU.enc u] K=aJm u K:=by kernel_rfl
theorem w9 (u:Un) (K:zdR):aJm u K=Q3 (λ_ _ Q=>Q) u.d u.d u.d (λ_ _=>K (cB.enc false)) (CJ u K):=by
 unfold aJm Q3;simp only[lx]
variable {u:Un} {K:zdR}
theorem A8 (h:aH u=true) (H:K (cB.enc (CH u))):CJ u K:=by
 have h:=eL h;have e:decide (0<b9 u.f rZ)= !decide (b9 u.f rZ<=0):=by
  rw[zax];simp
 unfold CH at H;rw[e] at H;unfold CJ;simp only[h.1,h.2,zaQ,show ∀g,dC g true=true from λ_=>rfl,bE];revert H;cases rV u.f<;>cases rV u.o<;>cases decide (b9 u.f rZ<=0)<;>cases aj u.k 0 100<;>cases aj u.s 0 2<;>cases u.s==0<;>exact λH=>H
theorem xa (h:aH u=true) (H:K (cB.enc (iy u))):aJm u K:=by
 rw[w9];unfold iy at H;refine iu ⟨λ_ h=>h,λ_ h=>h,λ_ h=>h,λ_ h=>h,λ_ h=>h,λ_ h=>h,λ_ h=>h⟩ (λJ d _ _=> ?_) (λJ=> ?_)
 ·rw[J] at H;exact H
 ·rw[J,zb6] at H;exact A8 h H
def h7:List (FuncId×Ctr):=(274,k1 cU cB aH iy)::h6
theorem Ww:GOk h7:=
 W8.cons (λW H=>dD λu h=>W8.yieldsV (ann:=noA) (n:=3) H m8 (cB.ids _) (by rw[EF];exact xa (K:=λr=>r=_) h rfl)) Tryz.call274
variable {p:Int×Int}
theorem EG (h:aR p=true) (h0:p.1=0):p.2=1:=by
 have b:=j8 h;unfold aR at h;simp only[za2,zdt] at h;have e:p.2.tdiv (Int.gcd p.1 p.2:Int)=p.2:=congrArg Prod.snd h.2.2;rw[h0,Int.gcd_zero_left] at e;have:(p.2.natAbs:Int)=p.2:=by omega
 rw[this,Int.tdiv_self (by omega)] at e;omega
theorem iz (h:aR p=true):eq2 p (0,1)=(p.1==0):=by
 unfold eq2;cases e:p.1==0 with
 |false=>rfl
 |true=>
  have:=EG h (eq_of_beq e);simp[this]
theorem y5 {d:D7} (h:eX d=true):eq7 d sR=at5 d:=by
 obtain⟨H,J,N,Y,a4,a5,a6⟩:=i9 h;have e0:eq7 d sR=(eq2 d.d0 (0,1)&&(eq2 d.d1 (0,1)&&(eq2 d.d2 (0,1)&&(eq2 d.d3 (0,1)&&(eq2 d.d4 (0,1)&&(eq2 d.d5 (0,1)&&(eq2 d.d6 (0,1)&&true))))))):=rfl;rw[e0,iz H,iz J,iz N,iz Y,iz a4,iz a5,iz a6,zaQ];rfl
theorem EH (h:eX u.d=true):eqU u (bT u.d u.f u.k)=(eqR u.o rZ&&u.s==(bif u.k==0&&at5 u.d then 2 else 1)):=by
 have H: ∀d:D7,eq7 d d=true:=λd=>by simp[eq7,eq2]
 have J: ∀s:zdG,seq s s=true:=λs=>We.2 rfl;have eR: ∀a:RS,eqR a a=true:=λa=>by simp[eqR,J]
 unfold eqU bT;simp only[H,eR,y5 h,BEq.rfl,zb6,zaQ]
theorem jE (u:Un):iy u=VK u:=by
 unfold iy VK CH;cases h:eX u.d with
 |false=>rfl
 |true=>
  rw[EH h];have e2:aj u.s 0 2=(u.s==0||(u.s==1||u.s==2)):=by
   rw[zax,VL];simp only[zav,zdx];omega
  rw[e2];by_cases h0:u.s=0
  ·simp[h0]
  ·by_cases h1:u.s=1
   ·simp[h1];cases u.k==0<;>cases at5 u.d<;>simp
   ·by_cases h2:u.s=2
    ·simp[h2];cases u.k==0<;>cases at5 u.d<;>simp
    ·have b0:(u.s==0)=false:=beq_eq_false_iff_ne.2 h0;have H:(u.s==1)=false:=beq_eq_false_iff_ne.2 h1;have J:(u.s==2)=false:=beq_eq_false_iff_ne.2 h2;cases u.k==0<;>cases at5 u.d<;>simp[b0,H,J]
def tK (i j:Int):Int:=bif i==j then 1 else 0
def PZ (i:Int):D7:=mk7 (tK i 0) 1 (tK i 1) 1 (tK i 2) 1 (tK i 3) 1 (tK i 4) 1 (tK i 5) 1 (tK i 6) 1
def aT (i:Int):Un:=bif !aj i 0 6 then noU else bT (PZ i) rI 0
theorem M6 {i:Int} (h:aj i 0 6=true):i=0\/i=1\/i=2\/i=3\/i=4\/i=5\/i=6:=by
 have:=VL.1 h;omega
theorem afK (K:zdR):gJ h7 noA 3 104 [cI.enc 0] K=K (cU.enc (aT 0)):=by kernel_rfl
theorem EJ (K:zdR):gJ h7 noA 3 104 [cI.enc 1] K=K (cU.enc (aT 1)):=by kernel_rfl
theorem EK (K:zdR):gJ h7 noA 3 104 [cI.enc 2] K=K (cU.enc (aT 2)):=by kernel_rfl
theorem EL (K:zdR):gJ h7 noA 3 104 [cI.enc 3] K=K (cU.enc (aT 3)):=by kernel_rfl
theorem EM (K:zdR):gJ h7 noA 3 104 [cI.enc 4] K=K (cU.enc (aT 4)):=by kernel_rfl
theorem EN (K:zdR):gJ h7 noA 3 104 [cI.enc 5] K=K (cU.enc (aT 5)):=by kernel_rfl
theorem EO (K:zdR):gJ h7 noA 3 104 [cI.enc 6] K=K (cU.enc (aT 6)):=by kernel_rfl
def hB:List (FuncId×Ctr):=(199,k3 cI cI cI cB (λa b c=> !aj a b c) (λ_ _ _=>false))::h7
theorem Xd:GOk hB:=Ww.cons (λW H=>sQ λa b c h=>WO.yieldsV (ann:=noA) (n:=3) H AW (cB.ids _) (by rw[tJ,(by simpa using h:aj a b c=false)])) call199
theorem EP (i:Int) (K:zdR):gJ hB noA 3 104 [cI.enc i] K=ah (!aj i 0 6) (K (cU.enc noU)):=by kernel_rfl
theorem Ox {W:World} (H:GlobU W) (i:Int):Go.Sy.Yields prog W 104 [cI.enc i] (cU.enc (aT i)):=by
 cases h:aj i 0 6 with
 |false=>
  have e:aT i=noU:=by unfold aT;rw[h];rfl
  rw[e];exact Xd.yieldsV (ann:=noA) (n:=3) H m8 (cU.ids _) (by rw[EP,h];exact rfl)
 |true=>
  rcases M6 h with rfl|rfl|rfl|rfl|rfl|rfl|rfl
  ·exact Ww.yieldsV (ann:=noA) (n:=3) H m8 (cU.ids _) (by rw[afK])
  ·exact Ww.yieldsV (ann:=noA) (n:=3) H m8 (cU.ids _) (by rw[EJ])
  ·exact Ww.yieldsV (ann:=noA) (n:=3) H m8 (cU.ids _) (by rw[EK])
  ·exact Ww.yieldsV (ann:=noA) (n:=3) H m8 (cU.ids _) (by rw[EL])
  ·exact Ww.yieldsV (ann:=noA) (n:=3) H m8 (cU.ids _) (by rw[EM])
  ·exact Ww.yieldsV (ann:=noA) (n:=3) H m8 (cU.ids _) (by rw[EN])
  ·exact Ww.yieldsV (ann:=noA) (n:=3) H m8 (cU.ids _) (by rw[EO])
def h8:List (FuncId×Ctr):=(104,k1 cI cU (λ_=>true) aT)::h7
theorem WD:GOk h8:=Ww.cons (λW H=>dD λi _=>Ox H i) call104
def g7:List (FuncId×Ctr):=
 g6
theorem Xe:GOk g7:=
 Wv
end Go.Proofs.YtdjfpjmijhjmpaaGreatDoor
namespace Yk
open Go.Proofs.YtdjfpjmijhjmpaaGreatDoor
open Go Go.Sy
def Fw (k:Nat) (x:RS×Int) (q:Rat):Prop:= ∃c,x=(c,0)/\FewR k c/\qV c=q
theorem y6 {n d:Int} {k:Nat} (J:d≠0) (h1:n.natAbs<10^k) (h2:d.natAbs<10^k) (H:k<=200):Fw k (rMk n d) (Rat.divInt n d):=
 ⟨_,kL (jp h1 H) (jp h2 H) J,(Few.divInt J h1 h2).rT H,BW _⟩
section
variable {a b:RS} {i j:Nat}
theorem den_pos (H:FewR i a):0<nS a.2:=(ay H.1).2.2.1
theorem FewR.fdiv (H:FewR i a) (J:FewR j b) (h0:qV b≠0) (h:i+j<=200):Fw (i+j) (cA a b) (qV a / qV b):=by
 have g:=jP (FewR.div H J h0 h);have hd:nS a.2*nS b.1≠0:=Int.mul_ne_zero (by have:=den_pos H;omega) (λe=>h0 ((kM J.1).2 e));have m:cA a b=rMk (nS a.1*nS b.2) (nS a.2*nS b.1):=by unfold cA;rw[if_pos (by simp[H.1,J.1])]
 obtain⟨c,N,Y,_⟩:=y6 (n:=nS a.1*nS b.2) (k:=i+j) hd (by rw[zaF];exact bD H.2.1 J.2.2) (by rw[zaF];exact bD H.2.2 J.2.1) h;exact⟨c,by rw[m,N],Y,by have:=g.2.2.2.val;rw[m,N] at this;exact this⟩
theorem FewR.mono (H:FewR i a) (h:i<=j):FewR j a:=
 ⟨H.1,zam H.2.1 (zb7 (by decide) h),zam H.2.2 (zb7 (by decide) h)⟩
theorem pF (H:FewR i a):uzR a=true:=by
 have:=ay H.1;unfold uzR uz;rw[zdp (by have:=dp this.1;unfold maxLen;omega),zdp (by have:=dp this.2.1;unfold maxLen;omega)];rfl
end
theorem Iw {p q:Int×Int}:eq2 p q=true↔p=q:=by unfold eq2;simp[Prod.ext_iff]
variable {d:D7}
theorem xb {e:D7}:eq7 d e=true↔d=e:=by
 unfold eq7;simp only[za2,Iw];constructor
 ·rintro⟨h0,h1,h2,h3,h4,h5,h6,_⟩;cases d;cases e;simp only at h0 h1 h2 h3 h4 h5 h6;subst h0;subst h1;subst h2;subst h3;subst h4;subst h5;subst h6;rfl
 ·rintro rfl;exact⟨rfl,rfl,rfl,rfl,rfl,rfl,rfl,trivial⟩
theorem Wg {a b:RS}:eqR a b=true↔a=b:=by
 unfold eqR;simp only[zaQ,za2,We];exact⟨λ⟨h1,h2⟩=>zc7 h1 h2,λh=>by rw[h];exact⟨rfl,rfl⟩⟩
variable {u:Un}
theorem Wh {v:Un}:eqU u v=true↔u=v:=by
 unfold eqU;simp only[zaQ,za2,xb,Wg,zdx];constructor
 ·rintro⟨h0,h1,h2,h3,h4⟩;cases u;cases v;simp only at h0 h1 h2 h3 h4;subst h0;subst h1;subst h2;subst h3;subst h4;rfl
 ·rintro rfl;exact⟨rfl,rfl,rfl,rfl,rfl⟩
theorem Iy (d:RS):eqR d d=true:=Wg.2 rfl
theorem Iz (d:Un):eqU d d=true:=Wh.2 rfl
structure UOK (k:Nat) (u:Un):Prop where
 valid:VK u=true
 f:FewR k u.f
 o:FewR k u.o
theorem M7:qV rZ=0:=by decide
theorem aKD:rV rZ=true:=by decide
theorem aiZ:FewR 1 rZ:=⟨by decide,by decide,by decide⟩
variable {n:Int}
theorem y7 {lo hi:Int}:aj n lo hi=true↔lo<=n/\n<=hi:=by unfold aj;simp
variable {q:Rat}
theorem y8:0<zY q 0↔0<q:=by
 have:= @J1 q 0;constructor
 ·intro h;apply Rat.not_le.1;intro hh;have:=this.2 hh;omega
 ·intro h;apply Int.not_le.1;intro hh;exact Rat.not_le.2 h (this.1 hh)
theorem WE:VK u=true↔eX u.d=true/\rV u.f=true/\rV u.o=true/\0<qV u.f/\(0<=u.k/\u.k<=100)/\(u.s=0\/u=bT u.d u.f u.k):=by
 unfold VK;simp only[za2,zav,zdt,y7,zdx,Wh];constructor
 ·rintro⟨h1,h2,h3,h4,h5,h6⟩;exact⟨h1,h2,h3,by rwa[rD h2 aKD,M7,y8] at h4,h5,h6⟩
 ·rintro⟨h1,h2,h3,h4,h5,h6⟩;exact⟨h1,h2,h3,by rwa[rD h2 aKD,M7,y8],h5,h6⟩
theorem Lz (h:0<q):q≠0:=λe=>by rw[e] at h;exact Rat.lt_irrefl h
variable {k:Nat}
theorem UOK.pos (h:UOK k u):0<qV u.f:=(WE.1 h.valid).2.2.2.1
theorem UOK.ne (h:UOK k u):qV u.f≠0:=Lz h.pos
theorem Xo {f:RS} {k:Int} (h1:eX d=true) (h2:rV f=true) (h3:0<qV f) (h4:0<=k/\k<=100):VK (bT d f k)=true:=
 WE.2 ⟨h1,h2,aKD,h3,h4, .inr rfl⟩
theorem Yx (h:VK u=true):VK (bT u.d u.f u.k)=true:=by
 have h:=WE.1 h;exact Xo h.1 h.2.1 h.2.2.2.1 h.2.2.2.2.1
theorem UOK.plain (h:UOK k u) (H:1<=k):UOK k (bT u.d u.f u.k):=⟨Yx h.valid,h.f,aiZ.mono H⟩
abbrev I4:=Int×Int×Int×Int
def atF (q:Int) (p0 p1 H:Int×Int) (j:Int):Int×Int:=bif j==q then p0 else bif j==q+1 then p1 else bif j==q+2 then H else(0,1)
def smallF (v:Int×Int):RS:=(rMk (co v.1 1999 - 999) (1+co v.2 60)).1
theorem gR (c:Int) (H:0<n):0<=co c n/\co c n<n:=by
 unfold co;cases h:decide (c<0) with
 |true=>
  have:=zdu h;exact⟨zco _ (by simp only[zdr];omega),zcn _ H⟩
 |false=>
  have:=zdv h;exact⟨zco _ (by simp only[zdq];omega),zcn _ H⟩
end Yk
namespace Go.Proofs.YtdjfpjmijhjmpaaGreatDoor
open Go Go.RowKit Go.Sy Yk
theorem GOk.append {g h:List (FuncId×Ctr)} (hg:GOk g) (hh:GOk h):GOk (g++h):=⟨λW H p hp=>by
 rcases za8.1 hp with hp|hp
 ·exact hg.all W H p hp
 ·exact hh.all W H p hp⟩
def b0:List (FuncId×Ctr):=g7++h8
variable {Q:Prop}
theorem LA {z:Int} (h: -9223372036854775808<=z/\z<=9223372036854775807) (H:Q):ah (inR .i64 z) Q:=by
 rw[VP.2 h];exact H
theorem xc {b:Bool} (h:b=true) (H:Q):ah b Q:=by rw[h];exact H
theorem atQ {d:D7} (h:eX d=true) (f:RS) (k:Int):dV d f k=bT d f k:=by
 unfold dV bT;rw[y5 h,Bool.and_comm]
def u4 (x:I4):Bool:=cl x.1&&(cl x.2.1&&(cl x.2.2.1&&cl x.2.2.2))
def abI (s H:zdG):List ByteArray:=Lib.splitB H 0 (Lib.countB s H) s
def ab0 (s:zdG):Int:=match Lib.atoiAll s.data.toList with
 | .ok v=>v
 | .range=>Lib.atoiSat s.data.toList
 |_=>0
def abR (s:zdG):Bool:=match Lib.atoiAll s.data.toList with
 | .ok _=>true
 |_=>false
open Go.Proofs.Tryz
def abJ (s:zdG) (e:Value):Prop:=match abR s with
 |true=>e= .nilIface
 |false=> ∃t p,e= .iface t p
theorem abK (s:zdG): ∃e,abJ s e:=by
 unfold abJ;cases abR s with
 |true=>exact⟨.nilIface,rfl⟩
 |false=>exact⟨.iface 0 .nilIface,0, .nilIface,rfl⟩
def abZ:MCtr:=λ_ _ args=>match args with
 | [.val (.string s)]=>some {X:=Value,pre:=decide (s.size<=1000000),spec:=abJ s,out:=λe=> .tup [.val (.int .i64 (ab0 s)), .val e],ex:=λ_=>abK s}
 |_=>none
def abN (l:List ByteArray):Blk:={n:=l.length,sz:=1,get:=λe=> [.val (.string (F7 l e))],kd:= .own}
def abV:MCtr:=λ_ nx args=>match args with
 | [.val (.string s), .val (.string H)]=>some {X:=Unit,pre:=decide (s.size<=1000000)&&decide (1<=H.size),spec:=λ_=>True,out:=λ_=> .slc nx 0 (abI s H).length,nw:=λ_=> [abN (abI s H)],ex:=λ_=>⟨(),trivial⟩}
 |_=>none
section
variable {W0:World}
theorem ad4 {bl:zdL} {nx:Nat} (h:NX bl nx) (B:Blk):fv bl nx [B]=upd bl nx B:=by
 funext i
 unfold fv upd;rw[aB,bS];by_cases h1:i<nx
 ·rw[zdp h1,zds (by omega: ¬i=nx)];rfl
 ·by_cases h2:i=nx
  ·subst h2;rw[zds h1,zdp rfl,zaJ];rfl
  ·rw[zds h1,zds h2];simp only[zdq];rw[h i (by omega)];exact zad (by simp;omega)
theorem agA {W0:Base} (hg:GlobB W0):VU prog W0 220 abZ:=by
 intro bl β w nx args C a0 j0 l0 i0 hk hp;clear i0;unfold abZ at hk;split at hk
 ·rename_i s;simp only[za1] at hk;subst hk;have hs:s.size<=1000000:=zdu hp;have hg:=hg w a0.below;obtain⟨_,⟨ev,hv,g0⟩,⟨er,hr,e0⟩⟩:=hg;have Y: ∀(e:Value) (w':World),abJ s e->Below w.heap.size w w'-> ∃x,abJ s x/\ ∃β',Ending.returned (.tuple #[.int .i64 (ab0 s),e])= .returned ((SV.tup [.val (.int .i64 (ab0 s)), .val x]).conc β')/\BC W0 (fv bl nx []) β' w'/\(∀i,bl i≠none->β' i=β i)/\Live (fv bl nx []) (.tup [.val (.int .i64 (ab0 s)), .val x]):=λe w' h J=>
   ⟨e,h,β,by simp[SV.conc,SV.concs],abx a0 l0 (by simp[SV.ids,SV.idss]) J⟩
  have kS: ∀(_:Lib.atoiAll s.data.toList≠ .range) (_: ∀v,Lib.atoiAll s.data.toList≠ .ok v),Calls prog 220 #[.string s] w λe w'=> ∃N,e= .returned (.tuple #[.int .i64 0, .iface 359 (.pointer (some ⟨N,0,none⟩))])/\Below w.heap.size w w':=by
   intro n1 n2;cases H:Lib.atoiAll s.data.toList
   ·exact absurd H (n2 _)
   ·refine Calls.mono (Any.strconv_Atoi_syntax laysC172 s (by omega) H ev w hv g0) ?_;rintro e w' ⟨N,he,_,_,J⟩;exact⟨N,he,J⟩
   ·exact absurd H n1
  have kR:Lib.atoiAll s.data.toList= .range->Calls prog 220 #[.string s] w λe w'=> ∃N,e= .returned (.tuple #[.int .i64 (Lib.atoiSat s.data.toList), .iface 359 (.pointer (some ⟨N,0,none⟩))])/\Below w.heap.size w w':=by
   intro H;refine Calls.mono (Any.strconv_Atoi_range laysC172 s (by omega) H er w hr e0) ?_;rintro e w' ⟨N,he,_,_,J⟩;exact⟨N,he,J⟩
  cases H:Lib.atoiAll s.data.toList
  ·rename_i v;refine(strconv_Atoi_ok s (by omega) v H w).mono ?_;rintro e w' ⟨rfl,hw⟩;have h1:ab0 s=v:=by unfold ab0;rw[H]
   have h2:abJ s .nilIface:=by unfold abJ abR;rw[H]
   have:=Y .nilIface w' h2 (by
    rcases hw with rfl|⟨t,rfl⟩
    ·exact zdC _ _
    ·exact Lib.bytesWorld_below w 5 t)
   rw[h1] at this;rw[h1];exact this
  ·refine(kS (by rw[H];exact λh=>by cases h) (by rw[H];exact λv h=>by cases h)).mono ?_;rintro e w' ⟨N,rfl,J⟩;have h1:ab0 s=0:=by unfold ab0;rw[H]
   have h2: ∀t p,abJ s (.iface t p):=λt p=>by unfold abJ abR;rw[H];exact⟨t,p,rfl⟩
   have:=Y (.iface 359 (.pointer (some ⟨N,0,none⟩))) w' (h2 _ _) J;rw[h1] at this;rw[h1];exact this
  ·refine(kR H).mono ?_;rintro e w' ⟨N,rfl,J⟩;have h1:ab0 s=Lib.atoiSat s.data.toList:=by unfold ab0;rw[H]
   have h2: ∀t p,abJ s (.iface t p):=λt p=>by unfold abJ abR;rw[H];exact⟨t,p,rfl⟩
   have:=Y (.iface 359 (.pointer (some ⟨N,0,none⟩))) w' (h2 _ _) J;rw[h1] at this;rw[h1];exact this
 ·cases hk
theorem aeC {s sep:zdG} (h:1<=sep.size):(abI s sep).length=Lib.countB s sep+1:=Lib.splitB_all sep h 0 _ s rfl
theorem adm {W0:Base} (hg:GlobB W0):VU prog W0 39 abV:=by
 intro bl β w nx args C Y e0 N a0 hk hp;clear a0;unfold abV at hk;split at hk
 ·rename_i s H;simp only[za1] at hk;subst hk;simp only[za2,zdt] at hp;obtain⟨⟨⟨m,hm⟩,_⟩,_⟩:=hg w Y.below;refine(strings_Split s H m w (by omega) hm hp.2).mono ?_;rintro e w' ⟨rfl,rfl⟩;have hid:bl nx=none:=N nx (za0 _);have hl:=aeC (s:=s) hp.2
  have k:=Y.alloc (id:=nx) hid (B:=abN (abI s H)) rfl (λ_ _=>rfl) (λe o x _ J=>by
   unfold abN at J;have:=zal J;simp only[zaj] at this;rw[this];exact aW (by simp[SV.ids])) ((abI s H).map λx=>SV.val (.string x)) (by simp[abN]) (λe o x he J=>by
    unfold abN at J he ⊢;simp only at J he ⊢;cases o with
    |zero=>
     simp only[zbA,za1] at J;rw[zbY,zaY,zaL,ae7 he,<-J];rfl
    |succ o=>simp at J) 9
  have ec:SV.concs β ((abI s H).map λx=>SV.val (.string x))=(abI s H).map Value.string:=by
   rw[SV.concs_eq,zct];rfl
  rw[ec] at k;refine⟨(),trivial,gp β nx ⟨w.heap.size,0,1,(abI s H).length,false⟩, ?_, ?_,λi hi=>aC (λe=>hi (e▸hid)), ?_⟩
  ·show _=Ending.returned (SV.conc _ (.slc nx 0 (abI s H).length));rw[jq (by rw[aA]) (.inr rfl)];unfold addr;rw[aA];simp only[hl];rfl
  ·show BC W0 (fv bl nx [abN (abI s H)]) _ _;rw[ad4 N];exact k
  ·show Live (fv bl nx [abN (abI s H)]) (.slc nx 0 (abI s H).length);rw[ad4 N];intro i hi;simp only[SV.ids,zaj] at hi;subst hi;rw[az];simp
 ·cases hk
end
def wd (n:zdG) (p:Int×Int):List ByteArray:=bif p.1 !=0&&p.2==1 then [n++⟨#[94]⟩++ofI p.1] else bif p.1 !=0 then [n++⟨#[94]⟩++ofI p.1++⟨#[47]⟩++ofI p.2] else []
def gmT:zdW:= [(214,abt),(39,abV),(220,abZ)]
def ab1:List FuncId:=214::39::220::NK
abbrev runX (g:List (FuncId×Ctr)) (ann:zdV) (n:Nat) (f:FuncId) (args:zdJ) (K:zdR):Prop:=wq Tryz.prog (iR ab1) (gw g) (gx gmT) ann n f args (λ_=>none) 0 [] (okK λr _ _ _=>K r)
variable {a b:Un}
theorem Wj:jk a b=true↔VK a=true/\VK b=true/\a.d=b.d/\a.f=b.f/\a.k=b.k:=by
 unfold jk;simp only[za2,xb,Wg,zdx];constructor
 ·rintro⟨⟨⟨⟨h1,h2⟩,h3⟩,h4⟩,h5⟩;exact⟨h1,h2,h3,h4,h5⟩
 ·rintro⟨h1,h2,h3,h4,h5⟩;exact⟨⟨⟨⟨h1,h2⟩,h3⟩,h4⟩,h5⟩
theorem ieq (a b:Int):(a==b)=decide (a=b):=by rw[zax];simp
theorem P1 (a b:Int):(a !=b)= !decide (a=b):=by unfold bne;rw[ieq]
instance instDecD7 (a b:D7):Decidable (a=b):=decidable_of_iff (eq7 a b=true) xb
theorem IA {b:Bool} (h: ¬b=true):b=false:=by cases b<;>simp_all
theorem Ba (H:VK a=true) (J:VK b=true):
 fw a b=if a.d=b.d/\a.f=b.f/\a.k=b.k/\(b.s≠0\/a.s=0/\a.o=b.o) then(if b.s≠0 then(a,0) else(bT a.d a.f a.k,0)) else(noU,70):=by
 unfold fw;by_cases h:a.d=b.d/\a.f=b.f/\a.k=b.k
 ·rw[Wj.2 ⟨H,J,h⟩];by_cases h2:b.s=0
  ·by_cases h3:a.s=0/\a.o=b.o
   ·have e:a=b:=by
     cases a;cases b;simp only at h h2 h3;obtain⟨rfl,rfl,rfl⟩:=h;obtain⟨rfl,rfl⟩:=h3;subst h2;rfl
    subst e;simp[h2,Iz]
   ·have e:eqU a b=false:=IA λe=>by
     have:=Wh.1 e;subst this;exact h3 ⟨h2,rfl⟩
    simp[h2,e,h3]
  ·simp[h,h2,P1]
 ·rw[IA (λe=>h (Wj.1 e).2.2),if_neg (λe=>h ⟨e.1,e.2.1,e.2.2.1⟩)];rfl
section
variable {a b c d:Un} {p q:RS}
end
section
variable {a b c d:Un} {p q:RS} {i j:Nat}
end
theorem D7.eq {a b:D7} (h0:a.d0=b.d0) (h1:a.d1=b.d1) (h2:a.d2=b.d2) (h3:a.d3=b.d3) (h4:a.d4=b.d4) (h5:a.d5=b.d5) (h6:a.d6=b.d6):a=b:=by
 cases a;cases b;simp only at h0 h1 h2 h3 h4 h5 h6;subst h0;subst h1;subst h2;subst h3;subst h4;subst h5;subst h6;rfl
section
variable {a b c:Un} {i:Nat}
end
theorem aCQ (a:zdG):a.data.toList.length=a.size:=rfl
theorem iU {a:RS} (h:rV a=true):(gk a).size<=403:=by
 have p:=ay h;have h1:=dp p.1;have h2:=dp p.2.1;unfold gk;rw[if_pos h];split
 ·omega
 ·show (List.toArray _).size<=_;simp only[zbp,za3,aCQ];simp;omega
def rrP (a b:RS) (Q:Prop):Prop:=ah (uzR a&&uzR b) Q
theorem _root_.Yk.UOK.sz {k:Nat} {u:Un} (h:UOK k u):aH u=true:=by
 unfold aH;rw[pF h.f,pF h.o];rfl
theorem pG {a b:RS} {Q:Prop} (J:uzR a=true) (N:uzR b=true) (H:Q):rrP a b Q:=by
 unfold rrP;rw[J,N];exact H
theorem nz:((0:Int) !=0)=false:=rfl
abbrev B64 (z:Int):Prop:= -9223372036854775808<=z/\z<=9223372036854775807
abbrev WX:=Int×RS
variable {r:RS} {k:Nat}
theorem EQ (h:(bV r (k+1)).1=false):(bV r k).1=false/\(ale (bV r k).2 r).2=0/\(bV r (k+1)).2=(ale (bV r k).2 r).1:=by
 unfold bV acV at h;cases e:(bV r k).1 with
 |true=>rw[e] at h;simp only[zbh,zdq] at h;rw[e] at h;cases h
 |false=>
  rw[e] at h;simp only[zbg,zdr,zbi,bne_eq_false_iff_eq] at h;refine⟨rfl,h, ?_⟩
  conv=>lhs;unfold bV acV
  rw[e];rfl
theorem aAf {r:RS}: ∀{N k:Nat},(bV r N).1=false->k<=N->(bV r k).1=false
 |0,k,h,H=>by
  have:k=0:=by omega
  subst this;exact h
 |N+1,k,h,H=>by
  by_cases e:k=N+1
  ·subst e;exact h
  ·exact aAf (EQ h).1 (by omega)
def ssP (a b:Un) (Q:Prop):Prop:=ah (aH a) (ah (aH b) Q)
def noK (K:zdR):Prop:=K ((cP cU cI).enc (noU,70))
def okK (K:zdR) (u:Un):Prop:=K ((cP cU cI).enc (u,0))
def LB (a b:Un):Bool:=iy a&&iy b&&a.s !=0&&b.s !=0
def aiF (a b:Un) (K:zdR):Prop:=
 ssP a b (ag (!LB a b) (noK K) (Q3 (AZ 1) a.d b.d (ku (kw 1) a.d b.d) (λ_ _=>rrP a.f b.f (noK K)) (rrP a.f b.f (ag ((ale a.f b.f).2 !=0) (noK K)
  (ag (b.s==2) (okK K (dV (ku (kw 1) a.d b.d) (ale a.f b.f).1 a.k)) (ag (a.s==2) (okK K (dV (ku (kw 1) a.d b.d) (ale a.f b.f).1 b.k)) (okK K (dV (ku (kw 1) a.d b.d) (ale a.f b.f).1 0))))))))
def Na (a b:Un) (K:zdR):Prop:=
 ssP a b (ag (!LB a b) (noK K) (Q3 (AZ (-1)) a.d b.d (ku (kw (-1)) a.d b.d) (λ_ _=>rrP a.f b.f (noK K)) (rrP a.f b.f (ag ((cA a.f b.f).2 !=0) (noK K)
  (ag (b.s==2) (okK K (dV (ku (kw (-1)) a.d b.d) (cA a.f b.f).1 a.k)) (okK K (dV (ku (kw (-1)) a.d b.d) (cA a.f b.f).1 0)))))))
theorem LC (a b:Un) (K:zdR):gJ h8 noA 3 107 [cU.enc a,cU.enc b] K=aiF a b K:=by kernel_rfl
theorem LD (a b:Un) (K:zdR):gJ h8 noA 3 106 [cU.enc a,cU.enc b] K=Na a b K:=by kernel_rfl
def pH (a b:Un):Bool:=iy a&&iy b&&eq7 a.d b.d&&eqR a.f b.f&&a.k==b.k
theorem LE (a b:Un) (K:zdR):gJ h8 noA 3 239 [cU.enc a,cU.enc b] K=ssP a b (ag (!pH a b||(a.s==0&&b.s==0)) (noK K) (ag (b.s==0) (okK K b) (okK K a))):=by kernel_rfl
theorem IB (a b:Un) (K:zdR):gJ h8 noA 3 240 [cU.enc a,cU.enc b] K=
 ssP a b (ag (!pH a b) (noK K) (ag (b.s !=0) (okK K a) (ag (!(a.s==0)|| !eqR a.o b.o) (noK K) (okK K (dV a.d a.f a.k))))):=by kernel_rfl
def CL (I:WX->Prop) (N:Int):zdV:=λf k=>bif Nat.beq f 241&&Nat.beq k 15 then some (λA=>{X:=WX,inv:=I,tm:=λx=> [(14, .val (.int .i64 x.1))],st:= [(kA A 13,λx=> [.val (.string x.2.1), .val (.string x.2.2)])],mu:=λx=>(N - x.1).toNat,keep:= [2,3,4,9,13]}) else none
def pvM (p:Int) (v:RS) (z:WX):Prop:=
 (TV.v (cI.enc p)=TV.v (cI.enc z.1)/\cg 0/\cg 1/\cg 2/\cg 36/\cg 279/\True)/\(True/\((([SV.val (.string v.1), .val (.string v.2)]:zdJ)= [.val (.string z.2.1), .val (.string z.2.2)]/\True)/\True))
def CN (a:Un) (p:Int×Int) (D:D7) (f:RS) (K:zdR):Prop:=ag (eq2 p (1,1)) (okK K (dV D f a.k)) (okK K (dV D f 0))
def Oy (I:WX->Prop) (N:Int) (a:Un) (p:Int×Int) (D:D7) (K:zdR):Prop:=
 ∃J:WX,I J/\(pvM 0 rI J/\ ∀z:WX,I z->ah (aj p.1 (-1000000) 1000000) (ag (decide (z.1<cC p.1)&&p.2==1)
  (rrP z.2 a.f (ag ((ale z.2 a.f).2 !=0) (noK K) (ah (inR .i64 (z.1+1)) (∃H:WX,I H/\((N - H.1).toNat<(N - z.1).toNat/\pvM (z.1+1) (ale z.2 a.f).1 H)))))
  (ag (decide (p.1<0)) (rrP rI z.2 (ag ((cA rI z.2).2 !=0) (noK K) (CN a p D (cA rI z.2).1 K))) (CN a p D z.2 K))))
def Nb (I:WX->Prop) (N:Int) (a:Un) (p:Int×Int) (K:zdR):Prop:=
 ah (aH a) (ag (!iy a|| !(P2 p).1||a.s==0||(p.2 !=1&& !eqR a.f rI)) (noK K) (Q3 (Ii p) a.d a.d (wV p a.d) (λ_ _=>noK K) (Oy I N a p (wV p a.d) K)))
theorem LF (I:WX->Prop) (N:Int) (a:Un) (p:Int×Int) (K:zdR):gJ h8 (CL I N) 3 241 [cU.enc a,c22.enc p] K=Nb I N a p K:=by kernel_rfl
variable {a b:Un}
theorem RN {Q:Prop} (h:(aH a&&aH b)=true) (H:Q):ssP a b Q:=by
 rw[za2] at h;exact xc h.1 (xc h.2 H)
theorem CO (a b:Un):(!LB a b)=(!aU a|| !aU b):=by
 unfold LB aU;rw[jE,jE];cases VK a<;>cases VK b<;>cases a.s !=0<;>cases b.s !=0<;>rfl
theorem IC (n:Int):((2:Int)==n)=(n==2):=by
 rw[zax,zdx,zdx];exact⟨Eq.symm,Eq.symm⟩
theorem aAg (d:D7) (f:RS×Int) (k:Int):qi (d,false) f k=(noU,70):=rfl
theorem adn (d:D7) (f:RS×Int) (k:Int):qi (d,true) f k=bif f.2 !=0 then(noU,70) else(bT d f.1 k,0):=rfl
variable {K:zdR}
theorem Bb (h:(aH a&&aH b)=true) (H:K ((cP cU cI).enc (mi a b))):aiF a b K:=by
 have J:=h;rw[za2] at J;refine RN h ?_;unfold mi at H;rw[CO,VH];refine⟨λq=>(by rw[q] at H;exact H),λq=> ?_⟩;rw[q,zdq,IC,IC] at H;have f:=If q;have Y:=bP f.1;have fb:=bP f.2;refine iu (ay6 (.inl rfl) Y fb) (λ_ d hd _=> ?_) (λN=> ?_)
 ·rw[hd,aAg] at H;exact pG (eL J.1).1 (eL J.2).1 H
 ·rw[ir N,adn] at H;refine pG (eL J.1).1 (eL J.2).1 ?_;unfold okK noK;simp only[atQ N];rw[VH];refine⟨λq=>(by rw[q] at H;exact H),λq=> ?_⟩;rw[q,zdq] at H;rw[VH];refine⟨λq=>(by rw[q] at H;exact H),λq=> ?_⟩;rw[q,zdq] at H;rw[VH];refine⟨λq=>(by rw[q] at H;exact H),λq=>(by rw[q] at H;exact H)⟩
theorem Bc (h:(aH a&&aH b)=true) (H:K ((cP cU cI).enc (aAO a b))):Na a b K:=by
 have J:=h;rw[za2] at J;refine RN h ?_;unfold aAO at H;rw[CO,VH];refine⟨λq=>(by rw[q] at H;exact H),λq=> ?_⟩;rw[q,zdq] at H;have f:=If q;have Y:=bP f.1;have fb:=bP f.2;refine iu (ay6 (.inr rfl) Y fb) (λ_ d hd _=> ?_) (λN=> ?_)
 ·rw[hd,aAg] at H;exact pG (eL J.1).1 (eL J.2).1 H
 ·rw[ir N,adn] at H;refine pG (eL J.1).1 (eL J.2).1 ?_;unfold okK noK;simp only[atQ N];rw[VH];refine⟨λq=>(by rw[q] at H;exact H),λq=> ?_⟩;rw[q,zdq] at H;rw[VH];refine⟨λq=>(by rw[q] at H;exact H),λq=>(by rw[q] at H;exact H)⟩
theorem vJ (a b:Un):pH a b=jk a b:=by
 unfold pH jk;rw[jE,jE]
theorem Be (h:(aH a&&aH b)=true) (H:K ((cP cU cI).enc (iS a b))):ssP a b (ag (!pH a b||(a.s==0&&b.s==0)) (noK K) (ag (b.s==0) (okK K b) (okK K a))):=by
 refine RN h ?_;unfold iS at H;rw[vJ,VH];refine⟨λq=>(by rw[q] at H;exact H),λq=> ?_⟩;rw[q,zdq] at H;rw[VH];refine⟨λq=>(by rw[q] at H;exact H),λq=>(by rw[q] at H;exact H)⟩
theorem aHj (h:(aH a&&aH b)=true) (H:K ((cP cU cI).enc (fw a b))):ssP a b (ag (!pH a b) (noK K) (ag (b.s !=0) (okK K a) (ag (!(a.s==0)|| !eqR a.o b.o) (noK K) (okK K (dV a.d a.f a.k))))):=by
 refine RN h ?_;rw[vJ,VH];refine⟨λq=> ?_,λq=> ?_⟩
 ·unfold fw at H;rw[q] at H;exact H
 have J:=Wj.1 (qt q);rw[Ba J.1 J.2.1] at H;rw[VH];refine⟨λq2=> ?_,λq2=> ?_⟩
 ·have N:b.s≠0:=by simpa using q2
  rw[if_pos ⟨J.2.2.1,J.2.2.2.1,J.2.2.2.2, .inl N⟩,if_pos N] at H;exact H
 have N:b.s=0:=by simpa using q2
 rw[VH];refine⟨λY=> ?_,λY=> ?_⟩
 ·rw[if_neg (λe=>by
   rcases e.2.2.2 with e|e
   ·exact e N
   ·rw[e.1,e.2,Iy] at Y;exact absurd Y (by decide))] at H
  exact H
 ·simp only[zbr,Bool.not_eq_false',zdx,Wg] at Y;rw[if_pos ⟨J.2.2.1,J.2.2.2.1,J.2.2.2.2, .inr Y⟩,if_neg (by simpa using N)] at H;unfold okK;rw[atQ (tH J.1)];exact H
def pvI (a:Un) (p:Int×Int) (z:WX):Prop:=(0<=z.1/\z.1<=cC p.1)/\(p.2=1\/z.1=0)/\bV a.f z.1.toNat=(false,z.2)
theorem zg (p:Int) (v:RS):pvM p v (p,v):=⟨⟨rfl,rfl,rfl,rfl,rfl,rfl,trivial⟩,trivial,⟨rfl,trivial⟩,trivial⟩
theorem Bf {N:Nat} (h:(bV r k).1=true) (H:k<=N):(bV r N).1=true:=by
 cases e:(bV r N).1 with
 |true=>rfl
 |false=>rw[aAf e H] at h;cases h
theorem ID {n:Int} {x:Bool×RS} (h:x.1=true):(tI n x).1=true:=by
 unfold tI;rw[h];simp[h]
theorem Bg {p:Int×Int} (h:aH a=true) (H:K ((cP cU cI).enc (jm a p))):Nb (pvI a p) (cC p.1) a p K:=by
 unfold jm at H;refine xc h ?_;have ec:(!iy a|| !(P2 p).1||a.s==0||(p.2 !=1&& !eqR a.f rI))=(!aU a|| !aR p||(p.2 !=1&& !eqR a.f rI)):=by
  rw[jE,lx];unfold aU bne;cases VK a<;>cases aR p<;>cases a.s==0<;>simp
 rw[ec,VH];refine⟨λq=>(by rw[q] at H;exact H),λq=> ?_⟩;rw[q,zdq] at H;have q1:aU a=true/\aR p=true:=by
  revert q;cases aU a<;>cases aR p<;>simp
 have hp:=j8 q1.2;have hm:0<=cC p.1/\cC p.1<=12/\(cC p.1).toNat=p.1.natAbs:=by
  unfold cC;split<;>omega
 refine iu (yX q1.2 (bP q1.1)) (λ_ d hd _=> ?_) (λhf=> ?_)
 ·rw[hd] at H;exact H
 rw[ir hf] at H;simp only[zbh,zbi] at H;refine⟨(0,rI),⟨⟨zat _,hm.1⟩, .inr rfl,rfl⟩,zg _ _, ?_⟩;rintro⟨k,v⟩ ⟨⟨h0,h1⟩,h2,h3⟩;simp only at h0 h1 h2 h3 ⊢;have hv:uzR v=true:=by
  have:=XV a.f k.toNat;rw[h3] at this;exact this
 refine xc (VL.2 (by omega)) ?_;rw[VH];refine⟨λc=> ?_,λc=> ?_⟩
 ·rw[za2,zdt,zdx] at c;have e:(k+1).toNat=k.toNat+1:=by omega
  have es:bV a.f (k.toNat+1)=((ale v a.f).2 !=0,(ale v a.f).1):=by
   conv=>lhs;unfold bV acV
   rw[h3];rfl
  refine pG hv (eL h).1 ?_;rw[VH];refine⟨λc2=> ?_,λc2=>LA (by omega) ⟨(k+1,(ale v a.f).1),⟨⟨by simp only;omega,by simp only;omega⟩, .inl c.2, ?_⟩,by simp only;omega,zg _ _⟩⟩
  ·have hb:(bV a.f (k.toNat+1)).1=true:=by rw[es];exact c2
   have a0:=Bf hb (show k.toNat+1<=p.1.natAbs by omega);rw[c.2] at H;simp only[BEq.rfl,zdr] at H;rw[ID a0] at H;exact H
  ·simp only;rw[e,es,c2]
 ·have ev:(bif p.2==1 then bV a.f p.1.natAbs else(false,rI))=(false,v):=by
   by_cases J:p.2=1
   ·rw[J] at c ⊢;simp only[BEq.rfl,zaQ,zdy] at c;have ek:k.toNat=p.1.natAbs:=by omega
    simp only[BEq.rfl,zdr];rw[<-ek,h3]
   ·have N:k=0:=h2.resolve_left J;subst N;rw[beq_eq_false_iff_ne.2 J];exact h3
  rw[ev] at H;have Y: ∀f:RS,K ((cP cU cI).enc (bT (wV p a.d) f (bif eq2 p (1,1) then a.k else 0),0))->CN a p (wV p a.d) f K:=by
   intro f N;unfold CN okK;rw[atQ hf,atQ hf,VH];refine⟨λe=>(by rw[e] at N;exact N),λe=>(by rw[e] at N;exact N)⟩
  unfold tI at H;rw[VH];refine⟨λc2=> ?_,λc2=> ?_⟩
  ·rw[c2] at H;simp only[zbg,zc5,zdr] at H;refine pG (by decide) hv ?_;rw[VH];refine⟨λc3=>(by rw[c3] at H;exact H),λc3=>Y _ (by rw[c3] at H;exact H)⟩
  ·rw[c2] at H;exact Y _ H
def h9:List (FuncId×Ctr):=
 (107,k2 cU cU (cP cU cI) (λa b=>aH a&&aH b) mi)::(106,k2 cU cU (cP cU cI) (λa b=>aH a&&aH b) aAO)::
 (239,k2 cU cU (cP cU cI) (λa b=>aH a&&aH b) iS)::(240,k2 cU cU (cP cU cI) (λa b=>aH a&&aH b) fw)::
 (241,k2 cU c22 (cP cU cI) (λa _=>aH a) jm):: []
theorem Xf:GOk h9:=by
 have e:GOk []:=⟨λ_ _ _ h=>by cases h⟩
 exact((((e.cons (λW H=>bC λa p h=>WD.yieldsV (ann:=CL (pvI a p) (cC p.1)) (n:=3) H de ((cP cU cI).ids _) (by rw[LF];exact Bg (K:=λr=>r=_) h rfl)) call241).cons
  (λW H=>bC λa b h=>WD.yieldsV (ann:=noA) (n:=3) H de ((cP cU cI).ids _) (by rw[IB];exact aHj (K:=λr=>r=_) h rfl)) call240).cons
  (λW H=>bC λa b h=>WD.yieldsV (ann:=noA) (n:=3) H de ((cP cU cI).ids _) (by rw[LE];exact Be (K:=λr=>r=_) h rfl)) call239).cons
  (λW H=>bC λa b h=>WD.yieldsV (ann:=noA) (n:=3) H de ((cP cU cI).ids _) (by rw[LD];exact Bc (K:=λr=>r=_) h rfl)) call106).cons
  (λW H=>bC λa b h=>WD.yieldsV (ann:=noA) (n:=3) H de ((cP cU cI).ids _) (by rw[LC];exact Bb (K:=λr=>r=_) h rfl)) call107
def eU:El Un:={sz:=20,sv:=ci,of:=Px,d:=noU,rt:=Kp,ids:=fj,len:=λ_=>rfl,one:=by decide}
def eN:El Nd:={sz:=26,sv:=svN,of:=Vh,d:=noN,rt:=fR,ids:=arA,len:=λ_=>rfl,one:=by decide}
def eR:El RS:={sz:=2,sv:=gA,of:=NH,d:=aFn,rt:=Kq,ids:=GG,len:=λ_=>rfl,one:=by decide}
def zh:List FuncId:= [
 246,
 360,
 364,
 319,
 369,
 362,
 367,
 365,
 366,
 368,
 363,
 83,
 161,
 242,
 22,
 78,
 80,
 81,
 82,
 75,
 245,
 164,
 358,
 251,
 361,
 318,
 359,
 79,
 235,
 306,
 58,
 244,
 147,
 317,
 73,
 160,
 26,
 105,
 238,
 308,
 19]
theorem xe: ∀f∈zh,Callable prog f:=by
 unfold zh;simp only[zc2]
 exact⟨
  call246,
  call360,
  call364,
  call319,
  call369,
  call362,
  call367,
  call365,
  call366,
  call368,
  call363,
  call83,
  call161,
  call242,
  call22,
  call78,
  call80,
  call81,
  call82,
  call75,
  call245,
  call164,
  call358,
  call251,
  call361,
  call318,
  call359,
  call79,
  call235,
  call306,
  call58,
  call244,
  call147,
  call317,
  call73,
  call160,
  call26,
  call105,
  call238,
  call308,
  call19,λ_ h=>by cases h⟩
def IE:List (FuncId×Ctr):=(60,k2 cI cI (cP cR cI) (λa b=>cl a&&cl b) rMk)::(h9++(h8++g7))
theorem Nc:GOk IE:=GOk.cons ⟨λW H p hp=>by
 rcases za8.1 hp with hp|hp
 ·exact Xf.all W H p hp
 ·rcases za8.1 hp with hp|hp
  ·exact WD.all W H p hp
  ·exact Xe.all W H p hp⟩ (λW H=>PR H) call60
def xf:List (FuncId×Ctr):=
 IE
theorem WH:GOk xf:=
 Nc
def tL:FuncId->Option DCtr:=λf=>bif Nat.beq f 79 then some GM else none
@[irreducible] def dk (gm:zdW) (ann:zdV) (n:Nat) (f:FuncId) (args:zdJ) (Cs:zdU) (K:Aft):Prop:=
 Ay prog (iR zh) (gw xf) (gx gm) tL ann n f args (λi=>Cs[i]?) Cs.length [] K
variable {gm:zdW} {ann:zdV} {n:Nat} {f:FuncId} {args:zdJ} {Cs:zdU}
theorem cQ {K K':Aft} (h:dk gm ann n f args Cs K) (H: ∀r b n w,K r b n w->K' r b n w):dk gm ann n f args Cs K':=by
 unfold dk at h ⊢;exact NiceT.mono (Ea _ _ _ _ _ _ f args _ _ _ (λi hi=>zad hi)) h λr b n w _=>H r b n w
structure MOk (gm:List (FuncId×MCtr)):Prop where
 all: ∀B:Base,GlobB B-> ∀p∈gm,VU prog B p.1 p.2
theorem MOk.nil:MOk []:=⟨λ_ _ _ h=>by cases h⟩
variable {F:FuncId}
theorem MOk.cons {c:MCtr} (h:MOk gm) (k: ∀B:Base,GlobB B->VU prog B F c):MOk ((F,c)::gm):=⟨λB hB p hp=>by
 rcases zai.1 hp with rfl|hp
 ·exact k B hB
 ·exact h.all B hB p hp⟩
theorem aIi (N:MOk gm) {B:Base} (hB:GlobB B):HypD prog B (iR zh) (gw xf) (gx gm) tL:=
 have h:Hyp prog B (iR zh) (gw xf) (gx gm):=mW (λp hp=>⟨CtrOK.base λw Y=>(WH.all w (hB w Y) p hp).1,(WH.all B.w (hB B.w (Pres.self B)) p hp).2⟩) (λB' s=>N.all B' (hB.sub s)) xe (by kernel_rfl)
 ⟨h.gam,h.mem,λB' s f k H=>by
   unfold tL at H;cases J:Nat.beq f 79 with
   |false=>rw[J] at H;cases H
   |true=>
    rw[J] at H;simp only[zdr,za1] at H;subst H
    rw[zab J];exact GN B',h.ok,h.mixed⟩
def tvE (s:SV):Prop:=TV.v s=TV.v s
def Oz (s f:SV) (n:Nat) (p z:Int):Prop:=(TV.v (cI.enc p)=TV.v (cI.enc z)/\tvE s/\tvE f/\tvE (cI.enc (n:Int))/\True)/\(True/\(True/\True))
def LH (I:Int->Prop) (N:Int) (s f:SV) (n:Nat) (body:Int->(Bool->Prop)->Prop) (K:Int->Prop):Prop:=
 ∃J:Int,I J/\(Oz s f n 0 J/\ ∀z:Int,I z->ag (decide (z<(n:Int)))
  (ah (decide (0<=z)&&decide (z<(n:Int))&&decide (0+z.toNat<n)) (ah (decide (0+z.toNat<n)) (body z λb=>ag b (K z) (ah (inR .i64 (z+1)) (∃H:Int,I H/\((N - H).toNat<(N - z).toNat/\Oz s f n (z+1) H))))))
  (K (-1)))
theorem RJ (s f:SV) (n:Nat) (p:Int):Oz s f n p p:=⟨⟨rfl,rfl,rfl,rfl,trivial⟩,trivial,trivial,trivial⟩
def be {α:Type} (p:α->Bool):List α->Int->Int
 | [],_=> -1
 |x::r,i=>bif p x then i else be p r (i+1)
theorem pI {α:Type} (p:α->Bool): ∀(l:List α) (i:Int),0<=i->decide (be p l i≥0)=l.any p
 | [],i,_=>by simp[be]
 |x::r,i,h=>by
  rw[be,zcQ];cases H:p x with
  |true=>simp;exact h
  |false=>simp only[zdq,zbi];exact pI p r (i+1) (by omega)
variable {α:Type}
theorem pJ (d:α) {l:List α} {p:α->Bool} {s f:SV} {body:Int->(Bool->Prop)->Prop} {K:Int->Prop} (hl:l.length<2^62) (N: ∀(z:Int) (Q:Bool->Prop),0<=z->z<l.length->Q (p (mb d l z.toNat))->body z Q) (J:K (be p l 0)):
 LH (λi=>0<=i/\i<=l.length/\be p l 0=be p (l.drop i.toNat) i) l.length s f l.length body K:=by
 refine⟨0,⟨zat _,by omega,rfl⟩,RJ _ _ _ _, ?_⟩;rintro z ⟨h0,h1,h2⟩;rw[VH];refine⟨λH=> ?_,λH=> ?_⟩
 ·have H:=zdu H;rw[zdp h0,zdp H,zdp (show 0+z.toNat<l.length by omega)];simp only[zc5,bE];have Y:l.drop z.toNat=mb d l z.toNat::l.drop (z+1).toNat:=by
   rw[show (z+1).toNat=z.toNat+1 by omega,zaH (show z.toNat<l.length by omega),bR (zaa _)]
  rw[Y,be] at h2;refine N z _ h0 H ?_;rw[VH];refine⟨λhp=> ?_,λhp=> ?_⟩
  ·rw[hp,zdr] at h2;rw[<-h2];exact J
  ·rw[hp,zdq] at h2;rw[VP.2 (by omega),bE];exact⟨z+1,⟨by omega,by omega,h2⟩,by omega,RJ _ _ _ _⟩
 ·have H:=zdv H;rw[show z.toNat=l.length by omega,List.drop_length,be] at h2;rw[h2] at J;exact J
theorem CP (p:α->Bool) (l:List α):(l.any λx=> !p x)= !l.all p:=by
 induction l with
 |nil=>rfl
 |cons x r H=>rw[zcQ,zbx,H,Bool.not_and]
variable {src:zdT}
theorem cd (h: ∀C∈Cs,C.kd.map=false):Far src Cs:= .inl h
theorem we {bl:zdL} {g:zdX}: ∀{Cs:zdU} {src:zdT},(∀C∈Cs,cN C.kd=false)->src.length=Cs.length-> ∀j,chR bl g src Cs j []
 | [], [],_,_,_=>trivial
 |D::N,o::os,h,H,j=>by
  simp only[chR,h D (by simp)];exact we (λC J=>h C (by simp[J])) (by simpa using H) _
 | [],_::_,_,H,_=>by simp at H
 |_::_, [],_,H,_=>by simp at H
variable {C:RC} {nx:Nat} {r:SV}
theorem IG {bl:zdL} {w:zdH} (x:C.X) (J:C.spec x) (h1:C.pan x=none) (h2:r.ids= []) (h3:C.out x=r) (h4:C.nw x= []) (h5:C.ch x= []) (h6: ∀C∈Cs,cN C.kd=false) (H:src.length=Cs.length):KB C src Cs nx (.ok r) bl n w:=by
 refine⟨x,J, [], ?_,zcA, ?_, ?_⟩
 ·rw[h1];exact⟨r,rfl,by rw[h3];exact Cp h2⟩
 ·rw[h4];trivial
 ·rw[h5];exact we h6 H _
abbrev CX:=Int×List Un
abbrev _root_.zdY:=List Nd
abbrev _root_.zdZ:=List Un
def svP (id:Int) (inp:zdZ) (nod:zdY) (out:Un):SV:= .agg ([.val (.int .i64 id), .slc 0 0 inp.length, .slc 1 0 nod.length]++ci out)
def eO (n:Nat) (i:Int) (K:Prop):Prop:=ah (decide (0<=i)&&decide (i<(n:Int))&&decide (0+i.toNat<n)) (ah (decide (0+i.toNat<n)) K)
def fL (inp H:zdZ) (x:Nd):Un×Int:=
 bif x.op==1 then(bif rV x.v&&VK x.u then(x.u,0) else(noU,90)) else
 bif x.op==2 then(bif decide (0<=x.n)&&decide (x.n<(inp.length:Int)) then(mb noU inp x.n.toNat,0) else(noU,90)) else
 bif x.op==3 then iS (mb noU H x.l.toNat) (mb noU H x.r.toNat) else
 bif x.op==4 then fw (mb noU H x.l.toNat) (mb noU H x.r.toNat) else
 bif x.op==5 then mi (mb noU H x.l.toNat) (mb noU H x.r.toNat) else
 bif x.op==6 then aAO (mb noU H x.l.toNat) (mb noU H x.r.toNat) else
 bif x.op==7 then(bif x.n==0||decide (x.n< -4)||decide (x.n>4) then(noU,90) else jm (mb noU H x.l.toNat) (x.n,1)) else
 bif x.op==8 then jm (mb noU H x.l.toNat) (1,2) else(noU,90)
def earF (n:Nat) (i:Int):Bool:=decide (0<=i)&&decide (i<(n:Int))
def VT (n:Nat) (x:Nd):Bool:=
 bif x.op==1 then eqN ⟨0,aFn,noU,x.n,x.l,x.r⟩ noN else
 bif x.op==2 then eqN ⟨0,x.v,x.u,0,x.l,x.r⟩ noN else
 bif decide (3<=x.op)&&decide (x.op<=6) then eqN ⟨0,x.v,x.u,x.n,0,0⟩ noN&&earF n x.l&&earF n x.r else
 bif x.op==7 then eqN ⟨0,x.v,x.u,0,0,x.r⟩ noN&&earF n x.l else
 bif x.op==8 then eqN ⟨0,x.v,x.u,x.n,0,x.r⟩ noN&&earF n x.l else false
def mn (inp H:zdZ) (x:Nd):Option Un:=bif VT H.length x&&(fL inp H x).2==0 then some (fL inp H x).1 else none
def iB (inp:zdZ):List Nd->List Un->List Un×Bool
 | [],H=>(H,true)
 |x::r,H=>match mn inp H x with
  |some u=>iB inp r (H++ [u])
  |none=>(H,false)
theorem int_eq {a b:Int}:(a==b)=true↔a=b:=zdx
variable {K:Prop}
theorem aY {i:Int} (h0:0<=i) (h1:i<n) (k:K):eO n i K:=ac (by
 rw[zdp h0,zdp h1,zdp (show 0+i.toNat<n by omega)];rfl) (ac (zdp (by omega)) k)
theorem aS {α:Type} {d:α}: ∀{l:List α} {u:α} {e:Nat},mb d (l++ [u]) e=if e=l.length then u else mb d l e
 | [],u,e=>by cases e<;>simp[mb]
 |x::r,u,e=>by
  cases e with
  |zero=>simp[mb]
  |succ e=>
   have:=aS (d:=d) (l:=r) (u:=u) (e:=e);simp only[zaO,mb,za4];rw[this];split<;>split<;>first|rfl|omega
def chkI (inp:zdZ) (nod:zdY) (z:CX):Prop:=0<=z.1/\z.1<=nod.length/\z.2.length=z.1.toNat/\(∀u∈z.2,szB u=true)/\iB inp nod []=iB inp (nod.drop z.1.toNat) z.2
theorem aIy {f:zdX} {x y:SV} {xs ys:zdJ} (h:x.rn f=some y) (k:SV.rns f xs=some ys):SV.rns f (x::xs)=some (y::ys):=by simp only[SV.rns,h,k]
theorem lz (x:C.X) (J:C.spec x) (h1:C.pan x=none) (h2:r.ids= []) (h3:C.out x=r) (h4:C.nw x= []) (h5:C.ch x= []) (h6: ∀C∈Cs,cN C.kd=false) (H:src.length=Cs.length)
 (h:dk gm ann n f args Cs (Go.Sy.okK λs _ _ _=>s=r)):dk gm ann n f args Cs (KB C src Cs nx):=cQ h λq b m w hq=>by
 cases q with
 |pan v=>exact hq.elim
 |ok s=>
  obtain rfl:s=r:=hq;exact IG x J h1 h2 h3 h4 h5 h6 H
def CS (I:Int->Prop) (N:Int):zdV:=λf k=>bif Nat.beq f 147&&Nat.beq k 2 then some (λA=>{X:=Int,inv:=I,tm:=λi=> [(8, .val (.int .i64 i))],mu:=λi=>(N - i).toNat,keep:= [0,1,7]}) else none
def jH (n:Int):Int:=if -n>n then -n else n
def okR (r:RS×Int):Option RS:=bif r.2 !=0 then none else some r.1
def kC (b:RS):Nat->Option RS
 |0=>some rI
 |k+1=>match kC b k with
  |some v=>okR (ale v b)
  |none=>none
def valF (ins vs:List RS) (x:Nd):Option RS:=
 bif x.op==1 then some x.v else
 bif x.op==2 then some (mb aFn ins x.n.toNat) else
 bif x.op==3 then okR (fZ (mb aFn vs x.l.toNat) (mb aFn vs x.r.toNat)) else
 bif x.op==4 then okR (iF (mb aFn vs x.l.toNat) (mb aFn vs x.r.toNat)) else
 bif x.op==5 then okR (ale (mb aFn vs x.l.toNat) (mb aFn vs x.r.toNat)) else
 bif x.op==6 then okR (cA (mb aFn vs x.l.toNat) (mb aFn vs x.r.toNat)) else
 bif x.op==7 then(match kC (mb aFn vs x.l.toNat) (jH x.n).toNat with
  |some v=>bif decide (x.n<0) then okR (cA rI v) else some v
  |none=>none) else
 bif x.op==8 then none else some aFn
theorem Fy {n:Int} (h: -9223372036854775808<=n/\n<=9223372036854775807) (k:K):ah (inR .i64 n) K:=ac (VP.2 h) k
def v9:List FuncId:=
 zh
theorem zG: ∀f∈v9,Callable prog f:=by
 unfold v9;intro f H;exact xe f H
abbrev ug (g:List (FuncId×Ctr)) (ann:zdV) (n:Nat) (f:FuncId) (args:zdJ) (K:zdR):Prop:=wq prog (iR v9) (gw g) (gx []) ann n f args (λ_=>none) 0 [] (Go.Sy.okK λr _ _ _=>K r)
theorem kh {g:List (FuncId×Ctr)} (h:GOk g) {W0:World} (hg:GlobU W0) (J:SV.idss args= []) (Y:r.ids= []) (H:ug g ann n F args (λs=>s=r)):Go.Sy.Yields prog W0 F args r:=
 cr (λW N=>mW (h.all W (hg.below N)) (λ_ _ _ h=>by cases h) zG (by kernel_rfl)) J Y H
theorem Fx (c n:Int) (K:zdR):ug xf noA 3 105 [cI.enc c,cI.enc n] K=vH c n K:=by kernel_rfl
abbrev Dg:Ctr:=k2 cI cI cI (λc n=>cl c&&decide (0<n)) co
theorem uh {W:World} (J:GlobU W) (H: ∀(c n:Int) (K:zdR),ug xf noA 3 F [cI.enc c,cI.enc n] K=vH c n K):CtrOK prog W F Dg:=bC λc n h=>by
 rw[za2] at h;exact kh WH (ann:=noA) (n:=3) J de (cI.ids _) (by rw[H];exact aJ7 (K:=λr=>r=_) h.1 (zdu h.2) rfl)
def ui:List (FuncId×Ctr):=
 (105,Dg)::
 xf
theorem xJ:GOk ui:=
 ((WH
   ).cons (λW H=>uh H Fx) call105)
def BL (n:Int):Un:=
 bif co n 7==0 then aT 0 else bif co n 7==1 then aT 2 else bif co n 7==2 then {aT 0 with f:=(⟨#[49]⟩,⟨#[49,48,48,48]⟩)} else
 bif co n 7==3 then(aAO (aT 0) (aT 0)).1 else bif co n 7==4 then {aT 4 with s:=0,o:=(⟨#[53,52,54,51]⟩,⟨#[50,48]⟩)} else bif co n 7==5 then aT 4 else(mi (aT 0) (aT 0)).1
def BM (n:Int) (K:zdR):Prop:=
 ah (cl n&&decide (0<(7:Int))) (ag (co n 7==0) (K (cU.enc (aT 0))) (ag (co n 7==1) (K (cU.enc (aT 2))) (ag (co n 7==2) (K (cU.enc {aT 0 with f:=(⟨#[49]⟩,⟨#[49,48,48,48]⟩)})) (
 ag (co n 7==3) (K (cU.enc (aAO (aT 0) (aT 0)).1)) (ag (co n 7==4) (K (cU.enc {aT 4 with s:=0,o:=(⟨#[53,52,54,51]⟩,⟨#[50,48]⟩)})) (ag (co n 7==5) (K (cU.enc (aT 4))) (K (cU.enc (mi (aT 0) (aT 0)).1))))))))
theorem JF (n:Int) (K:zdR):ug ui noA 3 26 [cI.enc n] K=BM n K:=by kernel_rfl
theorem JG {n:Int} {K:zdR} (h:cl n=true) (k:K (cU.enc (BL n))):BM n K:=by
 unfold BL at k;unfold BM;rw[h];refine ac rfl (bI (λa=> ?_) (λa=>bI (λb=> ?_) (λb=>bI (λc=> ?_) (λc=>bI (λd=> ?_) (λd=>bI (λe=> ?_) (λe=>bI (λf=> ?_) (λf=> ?_)))))))
 ·rw[a] at k;exact k
 ·rw[a,b] at k;exact k
 ·rw[a,b,c] at k;exact k
 ·rw[a,b,c,d] at k;exact k
 ·rw[a,b,c,d,e] at k;exact k
 ·rw[a,b,c,d,e,f] at k;exact k
 ·rw[a,b,c,d,e,f] at k;exact k
def xK:List (FuncId×Ctr):=
 (26,k1 cI cU cl BL)::
 ui
theorem BN:GOk xK:=
 (((xJ
   )
   )
   |>.cons (λW H=>dD λn h=>kh xJ (ann:=noA) (n:=3) H m8 (cU.ids _) (by rw[JF];exact JG (K:=λr=>r=_) h rfl)) call26
   )
end Go.Proofs.YtdjfpjmijhjmpaaGreatDoor
