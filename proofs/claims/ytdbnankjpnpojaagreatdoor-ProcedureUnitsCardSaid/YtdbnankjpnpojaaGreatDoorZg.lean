import Derived.Test.YtdbnankjpnpojaaGreatDoorZf
import Derived.ProofKit
import Derived.OpenShut
import Derived.Carry
set_option linter.unusedVariables false
set_option linter.unusedSimpArgs false
noncomputable section
namespace Go.Proofs.YtdbnankjpnpojaaGreatDoor
open Go Go.RowKit Go.Sy Yk
theorem al4 {q:Nd->Prop} {ex:Bool} {inp:ze1} (hq: ∀n y,q (RR inp.length n y)): ∀{xs:List I4} {z:List Nd×List Un},(∀x∈z.1,q x)-> ∀x∈(RT ex inp xs z).1,q x
 | [],z,h=>h
 |y::r,z,h=>by
  unfold RT;cases hl:decide (z.1.length<14) with
  |false=>exact h
  |true=>
   refine al4 hq (xs:=r) ?_;unfold TH;split
   ·cases !ex||opF y !=8 with
    |false=>exact h
    |true=>
     intro x hx;rcases za8.1 hx with a|a
     ·exact h x a
     ·rw[zaj.1 a];exact hq _ _
   ·exact h
theorem map_id {α:Type} {f:α->α} {l:List α} (h: ∀x∈l,f x=x):l.map f=l:=by
 induction l with
 |nil=>rfl
 |cons x r ih=>rw[zaK,h x (zbF ..),ih λy hy=>h y (zan _ hy)]
theorem take_set {α:Type} {x:α}: ∀{l:List α} {n i:Nat},n<=i->(l.set i x).take n=l.take n
 | [],n,i,_=>rfl
 |y::r,0,i,_=>rfl
 |y::r,n+1,i+1,h=>by rw[zaR,List.take_succ_cons,List.take_succ_cons,take_set (l:=r) (by omega)]
end Go.Proofs.YtdbnankjpnpojaaGreatDoor
namespace Yk
open Go Go.RowKit Go.ChangeShapes Go.WideShapes
section
variable {H:Type} {enc:TypeId×Value->H} {P:Program} {w:World} {base b0:Nat} {spare:zdS} {held:Bool} {r:Reach} {v:Value} {d:DataW H} {ps:List MemPlace}
theorem Dk {e:TypeId} {k:IntKind} {m:Nat} (he:P.underlying e=some (.int k)): ∀(cs:zdN) (xs:List (DataW H×List MemPlace)),cs.length=xs.length->
 (∀i,i<xs.length->DataW.trod enc P w base spare held m e ((cs.drop i).take 1)=xs[i]?)-> ∃zs:List Int,cs=zs.map (Value.int k)/\ ∀z∈zs,(Lit.int k z).wf=true
 | [], [],_,_=>⟨[],rfl,by simp⟩
 |c::cs,x::xs,hl,h=>by
  have h0:=h 0 (by simp);simp only[zaZ,List.take_succ_cons,zbv,zbA] at h0;obtain⟨z,e1,_,wz⟩:=DataW.trod_int he h0;obtain⟨zs,i1,i3⟩:=Dk he cs xs (by simpa using hl) (λi hi=>by have:=h (i+1) (by simpa using hi);simpa using this);refine⟨z::zs, ?_, ?_⟩
  ·simp only[zca,and_true] at e1;rw[e1,i1];rfl
  ·intro y hy;rcases zai.1 hy with rfl|hy
   ·exact wz
   ·exact i3 y hy
theorem open_ints {t e:TypeId} {n:Nat} {k:IntKind} (ht:P.underlying t=some (.array n e)) (he:P.underlying e=some (.int k)) (ce:P.cellsOf e=1) (ct:P.cellsOf t=n)
 (hval:Value.okWide P w r b0 t v) (hd:DataW.Trod enc P w base spare held t v d ps): ∃zs:List Int,v= .agg (zs.map (Value.int k)).toArray/\zs.length=n/\ ∀z∈zs,(Lit.int k z).wf=true:=by
 simp only[Value.okWide,ht] at hval;obtain⟨cs,rfl,hcs,_⟩:=hval;obtain⟨fuel,hf⟩:=hd;obtain⟨xs,m,_,_,hl,hn,hel⟩:=DataW.trod_array ht hf;rw[ce] at hel;simp only[Value.cells,zbZ] at hel hl;obtain⟨zs,h1,h2⟩:=Dk he cs.toList xs (by rw[hl,hn,ct]) (λi hi=>hel i (by omega));refine⟨zs,by rw[<-h1], ?_,h2⟩;have:=congrArg List.length h1;rw[zaB] at this;omega
end
theorem wd {H:Type} {enc:TypeId×Value->H} {P:Program} (hl:laidOutB P=true) {W W':World} (hb:Below W.heap.size W W'): ∀(ts:List TypeId) (vs:zdN) (ds:List (DataW H)) (p:List MemPlace),
 (∀t∈ts,P.readableRec t=true/\t<P.types.size)->(∀x∈p,x.block<W.heap.size)->DataW.TrodAll enc P W 0 (λ_=>true) true ts vs ds p->DataW.TrodAll enc P W' 0 (λb=>decide (b<W.heap.size)) true ts vs ds p
 | [], [], [],_,_,_,h=>h
 |t::ts,v::vs,d::ds,_,hr,hp,h=>by
  obtain⟨p,q,h1,h2,rfl⟩:=h;exact⟨p,q,Below.trod hl (hr t (by simp)).1 (hr t (by simp)).2 h1 hb (λx hx=>hp x (by simp[hx])),wd hl hb ts vs ds q (λt ht=>hr t (by simp[ht])) (λx hx=>hp x (by simp[hx])) h2,rfl⟩
 | [], [],_::_,_,_,_,h=>h.elim
 | [],_::_,_,_,_,_,h=>h.elim
 |_::_, [],_,_,_,_,h=>h.elim
 |_::_,_::_, [],_,_,_,h=>h.elim
inductive Leaf where
 |int (k:IntKind)
 |bool
 |str
def Leaf.ok:Leaf->Value->Prop
 | .int k,v=> ∃z,v= .int k z/\k.min<=z/\z<=k.max
 | .bool,v=> ∃b,v= .bool b
 | .str,v=> ∃s:zdJ,v= .string s/\s.size<=maxLen
def okL:List Leaf->List Value->Prop
 | [], []=>True
 |l::ls,v::vs=>l.ok v/\okL ls vs
 |_,_=>False
theorem Q9: ∀{a b:List Leaf} {u v:zdN},okL a u->okL b v->okL (a++b) (u++v)
 | [],_, [],_,_,h=>h
 |_::_,_,_::_,_,h,k=>⟨h.1,Q9 h.2 k⟩
 | [],_,_::_,_,h,_=>h.elim
 |_::_,_, [],_,h,_=>h.elim
def Ri (P:Program) (g:TypeId->Option (List Leaf)):List Field->Nat->Option (List Leaf)
 | [],_=>some []
 |f::fs,off=>match g f.type with
  |some l=>if P.cellsOf f.type=l.length/\f.offset=off then(match Ri P g fs (off+l.length) with
   |some r=>some (l++r)
   |none=>none) else none
  |none=>none
def QV (P:Program):Nat->TypeId->Option (List Leaf)
 |0,_=>none
 |d+1,t=>match P.underlying t with
  |some .bool=>some [.bool]
  |some (.int k)=>some [.int k]
  |some .string=>some [.str]
  |some (.array n e)=>match QV P d e with
   |some l=>if P.cellsOf e=l.length/\P.cellsOf t=n*l.length then some (List.replicate n l).flatten else none
   |none=>none
  |some (.struct fs)=>match Ri P (QV P d) fs.toList 0 with
   |some l=>if P.cellsOf t=l.length then some l else none
   |none=>none
  |_=>none
section
variable {H:Type} {enc:TypeId×Value->H} {P:Program} {w:World} {base:Nat} {spare:zdS} {held:Bool}
theorem Sx {l:List Leaf}: ∀(n:Nat) (cs:zdN),cs.length=n*l.length->(∀i,i<n->okL l ((cs.drop (i*l.length)).take l.length))->okL (List.replicate n l).flatten cs
 |0,cs,hl,_=>by
  have:cs= []:=zau (by omega);subst this;trivial
 |n+1,cs,hl,h=>by
  rw[zce,List.flatten_cons,<-zdn l.length cs];refine Q9 (by simpa using h 0 (by omega)) (Sx n _ (by rw[zbQ,hl,zaG];omega) λi hi=> ?_);have:=h (i+1) (by omega);rw[List.drop_drop];rwa[zaG,Nat.one_mul,zb3] at this
theorem Rj {g:TypeId->Option (List Leaf)} (hg: ∀{fuel:Nat} {t:TypeId} {cs:zdN} {x:DataW H×List MemPlace} {l:List Leaf},g t=some l->DataW.trod enc P w base spare held fuel t cs=some x->okL l cs):
 ∀{fs:List Field} {off:Nat} {cs:zdN} {l:List Leaf},Ri P g fs off=some l->off+l.length<=cs.length->
 (∀f∈fs,∃fuel x,DataW.trod enc P w base spare held fuel f.type ((cs.drop f.offset).take (P.cellsOf f.type))=some x)->okL l ((cs.drop off).take l.length)
 | [],off,cs,l,h,_,_=>by simp[Ri] at h;subst h;simp[okL]
 |f::fs,off,cs,l,h,hl,hf=>by
  rw[Ri] at h;split at h
  ·rename_i a ha;split at h
   ·rename_i hc;split at h
    ·rename_i r hr;cases h;simp only[za3] at hl ⊢;obtain⟨fuel,x,h1⟩:=hf f (by simp);rw[hc.1,hc.2] at h1;have h2:=Rj hg hr (cs:=cs) (by omega) (λg hg=>hf g (zan _ hg));rw[List.take_add,List.drop_drop];exact Q9 (hg ha h1) h2
    ·cases h
   ·cases h
  ·cases h
theorem FB: ∀(d:Nat) {fuel:Nat} {t:TypeId} {cs:zdN} {x:DataW H×List MemPlace} {l:List Leaf},QV P d t=some l->DataW.trod enc P w base spare held fuel t cs=some x->okL l cs
 |0,_,_,_,_,_,h,_=>by simp[QV] at h
 |d+1,fuel,t,cs,x,l,h,hx=>by
  rw[QV] at h;split at h
  ·rename_i ht;obtain⟨b,rfl,_⟩:=DataW.trod_bool ht hx;cases h;exact⟨⟨b,rfl⟩,trivial⟩
  ·rename_i k ht;obtain⟨z,rfl,_,hw⟩:=DataW.trod_int ht hx;cases h;simp only[Lit.wf,za2,zdv] at hw;exact⟨⟨z,rfl,hw⟩,trivial⟩
  ·rename_i ht;obtain⟨s,rfl,_,hs⟩:=DataW.trod_string ht hx;cases h;exact⟨⟨s,rfl,hs⟩,trivial⟩
  ·rename_i n e ht;split at h
   ·rename_i le hle;split at h
    ·rename_i hc;cases h;obtain⟨xs,m,_,_,hl,hn,hel⟩:=DataW.trod_array ht hx;rw[hc.2] at hl;rw[hc.1] at hel;refine Sx n cs hl λi hi=> ?_;have:=hel i hi;rw[zaa (by omega)] at this;exact FB d hle this
    ·cases h
   ·cases h
  ·rename_i fs ht;split at h
   ·rename_i lf hlf;split at h
    ·rename_i hc;cases h;obtain⟨xs,m,_,_,hl,hn,hel⟩:=DataW.trod_struct ht hx;rw[hc] at hl
     have:=Rj (g:=QV P d) (λh1 h2=>FB d h1 h2) (fs:=fs.toList) (off:=0) (cs:=cs) hlf (by omega) (λf hf=>by
      obtain⟨i,hi,e⟩:=zbR hf;have h1:=hel i f (by rw[<-Array.getElem?_toList];rw[zaa hi,e]);rw[zaa (by simp at hi;omega)] at h1
      exact⟨_,_,h1⟩)
     rwa[zaZ,zaI (by omega)] at this
    ·cases h
   ·cases h
  ·cases h
end
variable {vs:zdN}
theorem Rk {l:Leaf} {ls:List Leaf} (h:okL (l::ls) vs): ∃v r,vs=v::r/\l.ok v/\okL ls r:=by
 match vs,h with
 |v::r,h=>exact⟨v,r,rfl,h.1,h.2⟩
theorem TB (h:okL [] vs):vs= []:=by
 match vs,h with
 | [],_=>rfl
open Go.Sy
section
variable {H:Type} {enc:TypeId×Value->H} {P:Program} {w:World} {base:Nat}
theorem u64 {z:Int} (h:IntKind.i64.min<=z/\z<=IntKind.i64.max):cl z=true:=by
 exact Wl.2 h
theorem open_row {fuel:Nat} {e:TypeId} {a:Addr} {x:DataW H×List MemPlace} {spare:zdS} {held:Bool} (he:QV P 9 e=some [.int .i64, .int .i64, .int .i64, .int .i64]) (hs:a.spot=none) {i:Nat}
 (h:(w.cells? base (a.add (i*4)) 4).bind (DataW.trod enc P w base spare held fuel e)=some x): ∃y:I4,uz4 y=true/\ ∀o z,(RQ y)[o]? =some z->w.cell? ⟨a.block,a.off+i*4+o,none⟩=some (z.conc oj):=by
 rw[Option.bind_eq_some_iff] at h;obtain⟨cs,hc,hx⟩:=h;obtain⟨_,hl,hget⟩:=World.cells?_some hc;have hk:=FB 9 he hx;have ad: ∀o,(a.add (i*4)).add o=⟨a.block,a.off+i*4+o,none⟩:=λo=>by
  obtain⟨b,f,s⟩:=a;obtain rfl:s=none:=hs;unfold Addr.add;split<;>split<;>simp_all<;>omega
 obtain⟨_,_,rfl,⟨y0,rfl,b0⟩,h1⟩:=Rk hk;obtain⟨_,_,rfl,⟨y1,rfl,b1⟩,h2⟩:=Rk h1;obtain⟨_,_,rfl,⟨y2,rfl,b2⟩,h3⟩:=Rk h2;obtain⟨_,_,rfl,⟨y3,rfl,b3⟩,h4⟩:=Rk h3;obtain rfl:=TB h4;refine⟨(y0,y1,y2,y3),by unfold uz4;rw[u64 b0,u64 b1,u64 b2,u64 b3];rfl,λo z hz=> ?_⟩;have ho:o<4:=by
  rcases zah o 4 with h|h
  ·exact h
  ·rw[zad (by show 4<=o;exact h)] at hz;cases hz
 rw[<-ad,hget o ho];rcases(show o=0\/o=1\/o=2\/o=3 by omega) with rfl|rfl|rfl|rfl<;>(simp[RQ] at hz;subst hz;rfl)
end
def aoR:List SV->Int
 | [.val (.int .i64 z)]=>z
 |_=>0
def e1:El Int:={sz:=1,sv:=λz=> [.val (.int .i64 z)],of:=aoR,d:=0,rt:=λ_=>rfl,ids:=λ_=>rfl,len:=λ_=>rfl,one:=by decide}
def anL (k:Int):RS:=(rMk (co k 41 - 20) (1+co (Int.tdiv k 41) 5)).1
def vu (xs:List Int) (n:Nat):List RS:=Go.Sy.tab (λj=>anL (mb 0 xs j)) n
def nd (u:Un):Un:={u with f:=(rMk 1 1).1}
end Yk
namespace Go.Proofs.YtdbnankjpnpojaaGreatDoor
open Go Go.RowKit Go.Sy Yk Go.ChangeShapes Go.WideShapes
structure Ca9 where
 a:Int
 b:Int
 c:Int
 k:Int
 x:List I4
def Ca9.ok (c:Ca9):Bool:=cl c.a&&cl c.b&&cl c.c&&cl c.k&&c.x.all uz4
section
variable {H:Type} {enc:TypeId×Value->H} {P:Program} {w:World} {base:Nat}
def amK (P:Program) (t e:TypeId):Bool:=match P.cellTypes P.depth t with
 |some l=>l.length==5&&l[4]? ==some e
 |none=>false
theorem amk {r:Reach} {b0:Nat} {v:Value} {dd:DataW H} {ps:List MemPlace} {held:Bool} {t e:TypeId} {fs:Array Go.Field} {f0 f1 f2:Go.Field} (hu:P.underlying t=some (.struct fs)) (hfs:fs.toList= [f0,f1,f2]) (hc:P.cellsOf t=5)
 (h0:f0.offset=0/\P.cellsOf f0.type=3/\QV P 9 f0.type=some [.int .i64, .int .i64, .int .i64]) (h1:f1.offset=3/\P.cellsOf f1.type=1/\QV P 9 f1.type=some [.int .i64]) (h2:f2.offset=4/\P.cellsOf f2.type=1/\P.underlying f2.type=some (.slice e))
 (he:P.cellsOf e=4/\QV P 9 e=some [.int .i64, .int .i64, .int .i64, .int .i64]) (ht:amK P t f2.type=true)
 (hval:Value.okWide P w r b0 t v) (hd:DataW.Trod enc P w base (λ_=>true) held t v dd ps): ∃(c:Ca9) (L:Go.Sy.Loc),v=(al2 c.a c.b c.c c.k c.x.length).conc (λ_=>L)/\c.ok=true/\BlkOK (λ_=>L) 0 (e4.old c.x) w/\c.x.length<=maxLen:=by
 simp only[Value.okWide,hu] at hval;obtain⟨cs,rfl,hsz,ts,hts,_,hrow⟩:=hval;have ht4:ts.length=5/\ts[4]? =some f2.type:=by
  unfold amK at ht;rw[hts] at ht;simpa using ht
 obtain⟨fuel,hf⟩:=hd;obtain⟨xs,m,_,_,hl,hn,hel⟩:=DataW.trod_struct hu hf;have hL:cs.toList.length=5:=by rw[Array.length_toList,hsz,hc]
 have fld: ∀(i:Nat) (f:Go.Field),fs.toList[i]? =some f-> ∃x,DataW.trod enc P w base (λ_=>true) held m f.type ((cs.toList.drop f.offset).take (P.cellsOf f.type))=some x:=λi f hi=>by
  have h1:=hel i f (by rw[<-Array.getElem?_toList];exact hi);have hlt:i<fs.toList.length:=(zaV.1 hi).1;rw[zaa (by simp at hlt;omega)] at h1;exact⟨_,h1⟩
 rw[hfs] at fld;obtain⟨cs⟩:=cs;dsimp only at hL fld hrow ⊢
 match cs,hL with
 | [c0,c1,c2,c3,c4],_=>
 obtain⟨x0,k0⟩:=fld 0 f0 rfl;obtain⟨x1,k1⟩:=fld 1 f1 rfl;obtain⟨x2,k2⟩:=fld 2 f2 rfl;rw[h0.1,h0.2.1] at k0;rw[h1.1,h1.2.1] at k1;rw[h2.1,h2.2.1] at k2;obtain⟨⟨a0,rfl,b0⟩,⟨a1,rfl,b1⟩,⟨a2,rfl,b2⟩,_⟩:=FB 9 h0.2.2 k0;obtain⟨⟨a3,rfl,b3⟩,_⟩:=FB 9 h1.2.2 k1;have hcell:=hrow 4 c4 rfl;obtain⟨u,hu',hok⟩:=hcell;rw[ht4.1,ht4.2] at hu';simp only[za1] at hu';subst hu';rcases DataW.trod_slice h2.2.2 k2 with ⟨hs,_⟩|⟨a,len,cap,elems,rest,n,_,hs,_,_,hle,hcap,hlen,hget,hsp,_⟩
 ·simp only[List.drop_succ_cons,zaZ,List.take_succ_cons,zbv,zca,and_true] at hs;subst hs;refine⟨⟨a0,a1,a2,a3, []⟩,⟨0,0,4,0,true⟩,rfl, ?_, ?_,zaA _⟩
  ·unfold Ca9.ok;rw[u64 b0,u64 b1,u64 b2,u64 b3];rfl
  ·exact⟨rfl,λh=>(by cases h),za0 _,λe he=>absurd he (zbn e),λj hj=>(by simp at hj),λh=>(by cases h),λe he=>absurd he (zbn e),λ_=>rfl,λh=>(by cases h)⟩
 ·simp only[List.drop_succ_cons,zaZ,List.take_succ_cons,zbv,zca,and_true] at hs;subst hs;have hb:a.spot=none/\a.block<w.heap.size:=by
   unfold Cell.okWide at hok;simp only[h2.2.2] at hok;unfold Cell.ok at hok;simp only[h2.2.2] at hok;obtain⟨_,_,_,hsp,row,cells,hsh,_⟩:=hok;refine⟨hsp, ?_⟩;unfold World.shape? at hsh;rcases zah a.block w.heap.size with h|h
   ·exact h
   ·rw[zcD h] at hsh;cases hsh
  obtain⟨hrl,hrest⟩:=hsp rfl;rw[he.1] at hget hrest;have each: ∀i,∃y:I4,i<cap->uz4 y=true/\ ∀o z,(RQ y)[o]? =some z->w.cell? ⟨a.block,a.off+i*4+o,none⟩=some (z.conc oj):=λi=>by
   by_cases hi:i<cap
   ·by_cases hi':i<len
    ·have:=hget i hi';rw[zaa (by omega)] at this;obtain⟨y,h⟩:=Yk.open_row he.2 hb.1 this;exact⟨y,λ_=>h⟩
    ·have:=hrest (i - len) (by omega);rw[show len+(i - len)=i by omega,zaa (by omega)] at this;obtain⟨y,h⟩:=Yk.open_row he.2 hb.1 this;exact⟨y,λ_=>h⟩
   ·exact⟨(0,0,0,0),λh=>absurd h hi⟩
  obtain⟨g,hg⟩:=Classical.axiomOfChoice each;have hlx:(Go.Sy.tab g len).length=len:=fJ _ _;refine⟨⟨a0,a1,a2,a3,Go.Sy.tab g len⟩,⟨a.block,a.off,4,cap,false⟩, ?_, ?_, ?_, ?_⟩
  ·have:SV.conc (λ_=>(⟨a.block,a.off,4,cap,false⟩:Go.Sy.Loc)) (.slc 0 0 (Go.Sy.tab g len).length)= .slice (some a) len cap:=by
    rw[jq rfl (.inr rfl),hlx];obtain⟨b,f,s⟩:=a;obtain rfl:s=none:=hb.1;simp[addr]
   unfold al2;simp only[SV.conc,SV.concs] at this ⊢;rw[this]
  ·unfold Ca9.ok
   rw[u64 b0,u64 b1,u64 b2,u64 b3,show (Go.Sy.tab g len).all uz4=true from zaf.2 λy hy=>by
    obtain⟨i,hi⟩:=zby hy;have hlt:i<len:=by have:=(zaV.1 hi).1;omega
    rw[qX _ hlt] at hi;simp only[za1] at hi;subst hi
    exact(hg i (by omega)).1];rfl
  ·refine⟨rfl,λ_=>hb.2,by show (Go.Sy.tab g len).length<=cap;omega,λe he=>rfl,λj hj=> ?_,λh=>(by cases h),λe he o s ho=> ?_,λh=>(by cases h),λ_=>rfl⟩
   ·have hj:j<cap*4:=hj;have:=(hg (j / 4) (by omega)).2 (j%4);show (w.cell? ⟨a.block,a.off+j,none⟩).isSome=true;rw[show a.off+j=a.off+j / 4*4+j%4 by omega];have hlt:j%4<(RQ (g (j / 4))).length:=by show j%4<4;omega
    rw[this _ (zaa hlt)];rfl
   ·have he':e<len:=by rw[<-hlx];exact he
    have e1:e4.get (Go.Sy.tab g len) e=RQ (g e):=by
     unfold El.get El.nth;rw[bR (qX g he')];rfl
    have ho':(RQ (g e))[o]? =some s:=by rw[<-e1];exact ho
    have:=(hg e (by omega)).2 o s ho';show w.cell? ⟨a.block,a.off+e*4+o,none⟩=_;rw[this];have:s.ids= []:=by
     have hm:s∈RQ (g e):=zal ho';simp only[RQ,zai,zbx,or_false] at hm;rcases hm with rfl|rfl|rfl|rfl<;>rfl
    rw[SV.conc_congr s (β:=oj) (β':=λ_=>(⟨a.block,a.off,4,cap,false⟩:Go.Sy.Loc)) (λi h=>by rw[this] at h;cases h)]
  ·show (Go.Sy.tab g len).length<=maxLen;omega
end
open Go.Proofs.Tryz
theorem aoS (a:Addr) (n d:Int) (K:zdT):acb a xK [] noA 5 32 [cI.enc n,cI.enc d] K=af (cl n&&cl d) (K (cR.enc (rMk n d).1)):=by kernel_rfl
def gOf:List (FuncId×Ctr):=(32,k2 cI cI cR (λn d=>cl n&&cl d) (λn d=>(rMk n d).1))::xK
theorem aoj:GEk gOf:=(GEk.of BN).cons (λa W hW=>bC λn d h=>l0 (GEk.of BN) (MEk.nil (a:=a)) hW (ann:=noA) (n:=5) de (cR.ids _) (by rw[aoS];exact ac h rfl)) call32
theorem aok (a:Addr) (u:Un) (K:zdT):acb a gOf [] noA 5 24 [cU.enc u] K=K ((cP3 cU cR cB).enc (nd u,u.f,u.s !=0)):=by kernel_rfl
def gBs:List (FuncId×Ctr):=(24,k1 cU (cP3 cU cR cB) (λ_=>true) (λu=>(nd u,u.f,u.s !=0)))::gOf
theorem ao1:GEk gBs:=aoj.cons (λa W hW=>dD λu h=>l0 aoj (MEk.nil (a:=a)) hW (ann:=noA) (n:=5) eu ((cP3 cU cR cB).ids _) (by rw[aok])) call24
abbrev V9:=Int×List RS
def aol (I:V9->Prop) (N:Int):zdX:=λf k=>bif Nat.beq f 20&&Nat.beq k 3 then some (λA=>{X:=V9,inv:=I,tm:=λx=> [(6, .val (.int .i64 x.1)),(5, .slc A.nx 0 x.2.length)],gr:= [{src:= .slot 5,sz:=2,n:=λx=>x.2.length,get:=λx=>eR.get x.2}],cleanG:=λg hg x e=>(by simp at hg;subst hg;exact eR.ids _),mu:=λx=>(N - x.1).toNat,keep:= [0,1,4]}) else none
def aoT (Q:Nat->Nat->Blk->Prop):Aft:=λr bl _ _=>match r with
 | .ok (.slc i 0 n)=>(match bl i with
   |some B=>Q i n B
   |none=>False)
 |_=>False
abbrev aoO (a:Addr) (I:V9->Prop) (N:Int) (xs:List Int) (n:Int) (Q:Nat->Nat->Blk->Prop):Prop:=XC a gOf [] (aol I N) 6 20 [.slc 0 0 xs.length,cI.enc n] [e1.old xs] (aoT Q)
def anM (l:List RS) (v:RS):zdP:=ald (eR.get l) (λe=>((gA v).drop (e*2)).take 2) l.length 0
variable {l:List RS} {v:RS} {e:Nat}
theorem aoc (he:e<l.length+1):anM l v e=eR.get (l++ [v]) e:=by
 unfold anM ald El.get El.nth;rw[aB];show _=gA (mb VI (l++ [v]) e);rw[aS];by_cases h:e<l.length
 ·rw[zdr h,if_neg (by omega)];rfl
 ·obtain rfl:e=l.length:=by omega
  rw[zdu h,if_pos rfl,zaJ];rfl
theorem anN {z:List RS} (hz:z=l++ [v]):af (Nat.beq 2 2&&decide (z.length<=l.length+1)) (∀e,e<z.length->anM l v e=eR.get z e):=by
 subst hz;have hl:(l++ [v]).length=l.length+1:=by simp
 exact ac (by rw[hl,zdr (za0 _)];rfl) λe he=>aoc (by omega)
def vaK (xs:List Int) (n:Int):Prop:=tvE (.slc 0 0 xs.length)/\tvE (cI.enc n)/\tvE (.val (.slice none 0 0))/\True
def vaM (q:Nat) (xs:List Int) (n i:Int) (m:Nat) (g:zdP) (z:V9):Prop:=(TV.v (cI.enc i)=TV.v (cI.enc z.1)/\TV.v (.slc q 0 m)=TV.v (.slc q 0 z.2.length)/\vaK xs n)/\(True/\(True/\(af (Nat.beq 2 2&&decide (z.2.length<=m)) (∀e,e<z.2.length->g e=eR.get z.2 e)/\True)))
def vaN (I:V9->Prop) (N:Int) (xs:List Int) (n:Int) (z:V9) (q:Nat) (k:Int):Prop:=
 af (pkB k 41) (af (inR .i64 (co k 41 - 20)) (af (!decide ((41:Int)=0)&&inR .i64 (k.tdiv 41)) (af (pkB (k.tdiv 41) 5) (af (inR .i64 (1+co (k.tdiv 41) 5)) (af (cl (co k 41 - 20)&&cl (1+co (k.tdiv 41) 5))
  (LP z.2.length (af (inR .i64 (z.1+1)) (∃z':V9,I z'/\((N - z'.1).toNat<(N - z.1).toNat/\vaM q xs n (z.1+1) (z.2.length+1) (anM z.2 (anL k)) z')))))))))
def vaT (I:V9->Prop) (N:Int) (xs:List Int) (n:Int) (Q:Nat->Nat->Blk->Prop):Prop:=
 ∃z0:V9,I z0/\(((TV.v (cI.enc 0)=TV.v (cI.enc z0.1)/\TV.v (.val (.slice none 0 0))=TV.v (.val (.slice none z0.2.length 0))/\vaK xs n)/\(True/\(True/\(z0.2.length=0/\True))))/\
  ∀z:V9,I z->ag (decide (z.1<n)) (ag (decide (z.1<(xs.length:Int))) (eO xs.length z.1 (vaN I N xs n z 28 (e1.nth xs (0+z.1.toNat)))) (vaN I N xs n z 23 0))
   (Q 4 z.2.length {n:=z.2.length,sz:=2,get:=eR.get z.2,kd:= .own,nn:=false}))
theorem aoC (a:Addr) (I:V9->Prop) (N:Int) (xs:List Int) (n:Int) (Q:Nat->Nat->Blk->Prop):aoO a I N xs n Q=vaT I N xs n Q:=by kernel_rfl
theorem aoD (k:Int):uzR (anL k)=true:=alg _ _
def vaI (xs:List Int) (n:Int) (z:V9):Prop:=0<=z.1/\z.1<=n/\z.2=vu xs z.1.toNat
variable {xs:List Int} {n k:Int}
theorem aom {z:V9} {q:Nat} (h:vaI xs n z) (hz:z.1<n) (hn:n<=1000000) (hk:cl k=true) (e:k=mb 0 xs z.1.toNat):vaN (vaI xs n) n xs n z q k:=by
 obtain⟨h0,h1,h2⟩:=h;have b1:=gR k (n:=41) (by decide);have b2:=gR (k.tdiv 41) (n:=5) (by decide);have hl:z.2.length=z.1.toNat:=by rw[h2];exact fJ _ _
 have bk:=V4.1 hk;have bt: -9223372036854775808<=k.tdiv 41/\k.tdiv 41<=9223372036854775807:=by
  have h1:=bk.1;have h2:=bk.2;have:k.tdiv 41=if 0<=k then k / 41 else -((-k) / 41):=by
   split
   ·exact Int.tdiv_eq_ediv_of_nonneg (by omega)
   ·have:k= -(-k):=by omega
    rw[this,Int.neg_tdiv,Int.tdiv_eq_ediv_of_nonneg (by omega),Int.neg_neg]
  rw[this];split<;>omega
 have e1:(z.1+1).toNat=z.1.toNat+1:=by omega
 unfold vaN;rw[show inR .i64 (co k 41 - 20)=true from VP.2 (by omega),show inR .i64 (k.tdiv 41)=true from VP.2 bt,show inR .i64 (1+co (k.tdiv 41) 5)=true from VP.2 (by omega),show inR .i64 (z.1+1)=true from VP.2 (by omega)];refine QU hk (by decide) (ac rfl (ac rfl (QU (V4.2 bt) (by decide) (ac rfl (ac (by rw[V4.2 (show B64 (co k 41 - 20) from⟨by omega,by omega⟩),V4.2 (show B64 (1+co (k.tdiv 41) 5) from⟨by omega,by omega⟩)];rfl) (LQ (by omega) (ac rfl ⟨(z.1+1,z.2++ [anL k]),⟨by show 0<=z.1+1;omega,by show z.1+1<=n;omega, ?_⟩,by show (_:Nat)<_;dsimp only;omega,⟨⟨rfl,by simp,rfl,rfl,rfl,trivial⟩,trivial,trivial,anN rfl,trivial⟩⟩)))))));show z.2++ [anL k]=vu xs (z.1+1).toNat;rw[e1,h2,e];rfl
theorem an5 {Q:Nat->Nat->Blk->Prop} (h0:0<=n) (hn:n<=1000000) (hx: ∀x∈xs,cl x=true) (k:Q 4 n.toNat (eR.own (vu xs n.toNat))):vaT (vaI xs n) n xs n Q:=by
 refine⟨(0, []),⟨zat _,h0,rfl⟩,⟨⟨rfl,rfl,rfl,rfl,rfl,trivial⟩,trivial,trivial,rfl,trivial⟩, ?_⟩;rintro⟨i,l⟩ hI;have h:=hI;obtain⟨k0,k1,k2⟩:=h;dsimp only at k0 k1 k2 ⊢;have hl:l.length=i.toNat:=by rw[k2];exact fJ _ _
 refine ah (λhb=>ah (λhc=> ?_) (λhc=> ?_)) (λhb=> ?_)
 ·have hb:=zdw hb;have hc:=zdw hc;refine aY k0 hc (aom hI hb hn ?_ ?_)
  ·exact hx _ (bw (by omega))
  ·show mb 0 xs (0+i.toNat)=_;rw[za7]
 ·have hb:=zdw hb;have hc:=zdx hc;refine aom hI hb hn (by decide) ?_;have: ∀(l:List Int) (e:Nat),l.length<=e->mb 0 l e=0:=by
   intro l
   induction l with
   |nil=>intro e _;rfl
   |cons x r ih=>intro e he;cases e with
    |zero=>simp at he
    |succ e=>exact ih e (by simpa using he)
  exact(this xs i.toNat (by omega)).symm
 ·have hb:=zdx hb;obtain rfl:i=n:=by omega
  have e:l=vu xs i.toNat:=k2;subst e;have hl':(vu xs i.toNat).length=i.toNat:=fJ _ _;have:({n:=(vu xs i.toNat).length,sz:=2,get:=eR.get (vu xs i.toNat),kd:= .own,nn:=false}:Blk)=eR.own (vu xs i.toNat):=rfl;rw[this,hl'];exact k
def an6:MCtr:=λbl nx args=>match args with
 | [s, .val (.int .i64 n)]=>match vW bl 1 s with
   |some (b,_,m,g)=>some {X:=Unit,pre:=b&&e1.good cl m g&&decide (1<=n)&&decide (n<=1000000),spec:=λ_=>True,out:=λ_=> .slc nx 0 n.toNat,nw:=λ_=> [eR.own (vu (e1.list m g) n.toNat)],ex:=λ_=>⟨(),trivial⟩}
   |none=>none
 |_=>none
theorem aod {a:Addr}: ∀B:Base,GlobEB a B->VU prog B 20 an6:=agE aoj MEk.nil λbl nx args C hk hp=>by
 unfold an6 at hk;split at hk
 ·rename_i s n;split at hk
  ·rename_i b o m g hs;simp only[za1] at hk;subst hk;simp only[za2,zdv] at hp;obtain⟨⟨⟨rfl,hg⟩,h1⟩,h2⟩:=hp;obtain⟨t1,t2⟩:=cq (f:=rnF [o] [] nx) hs hg;have hold: ∀C∈ [e1.old (e1.list m g)],cN C.kd=false:=by simp[cN,El.old]
   refine⟨[o], [e1.old (e1.list m g)], [.slc 0 0 (e1.list m g).length,cI.enc n],aol (vaI (e1.list m g) n) n,6,aw t1 trivial,bH hold,cd (by simp[El.old,BK.map]),ar (t2 0 rfl) rfl, ?_⟩;refine afP (K:=aoT λi k B=>i=4/\k=n.toNat/\B=eR.own (vu (e1.list m g) n.toNat)) ?_ λr bl' q w h=> ?_
   ·have e:=aoC a (vaI (e1.list m g) n) n (e1.list m g) n (λi k B=>i=4/\k=n.toNat/\B=eR.own (vu (e1.list m g) n.toNat));unfold aoO at e;rw[e];exact an5 (by omega) h2 (El.good_list hg) ⟨rfl,rfl,rfl⟩
   ·unfold aoT at h;split at h
    ·rename_i i k;split at h
     ·rename_i B hB;obtain⟨rfl,rfl,rfl⟩:=h;have e0:dt [o] [some 4] nx nx=some (some 4):=cO;refine⟨(),trivial, [some 4],⟨_,rfl, ?_⟩,by simp[ck],⟨⟨by simp, ?_⟩,trivial⟩,cr hold rfl _⟩
      ·show SV.rn (dt [o] [some 4] nx) (.slc nx 0 n.toNat)=_;simp only[SV.rn,e0]
      ·rw[hB];exact⟨by simp[El.own],λ_=>⟨by show 1<=(vu _ _).length;rw[show (vu (e1.list m g) n.toNat).length=n.toNat from fJ _ _];omega,eR.one⟩,gC rfl rfl (za0 _) λ_ _=>rfl⟩
     ·exact h.elim
    ·exact h.elim
  ·cases hk
 ·cases hk
theorem Y2 {B:Base} {F:FuncId} {k k':MCtr} (h:VU prog B F k) (hk: ∀bl nx args C',k' bl nx args=some C'->C'.pre=true-> ∃C,k bl nx args=some C/\C.pre=true/\ ∀x,C.spec x-> ∃y,C'.spec y/\C'.res y=C.res x/\C'.nw y=C.nw x/\C'.ch y=C.ch x):VU prog B F k':=λbl β w nx args C' a b c d e p=>by
 obtain⟨C,h1,h2,h3⟩:=hk bl nx args C' e p;refine Calls.mono (h bl β w nx args C a b c d h1 h2) ?_;rintro e w' ⟨x,hx,β',q⟩;obtain⟨y,hy,r1,r2,r3⟩:=h3 x hx;exact⟨y,hy,β',by rw[r1,r2,r3];exact q⟩
def YN:MCtr:=λbl nx args=>match args with
 | [s]=>match mC bl s with
   |some a=>some {X:=Unit,pre:=a.need&&VM a.p,spec:=λ_=>True,out:=λ_=>cB.enc true,ex:=λ_=>⟨(),trivial⟩}
   |none=>none
 |_=>none
theorem Y9: ∀B:Base,GlobB B->VU prog B 16 YN:=λB hB=>Y2 (lZ B hB) λbl nx args C hk hp=>by
 unfold YN at hk;split at hk
 ·rename_i s;split at hk
  ·rename_i a ha;simp only[za1] at hk;subst hk;simp only[za2] at hp;have hC:pN bl nx [s]=some {X:=Unit,pre:=a.need,spec:=λ_=>True,out:=λ_=>cB.enc (VM a.p),ex:=λ_=>⟨(),trivial⟩}:=by simp only[pN,ha]
   exact⟨_,hC,hp.1,λ_ _=>⟨(),trivial,congrArg (λz=>Res.ok (cB.enc z)) hp.2.symm,rfl,rfl⟩⟩
  ·cases hk
 ·cases hk
def ao2:zdZ:= [(21,zm),(16,YN),(20,an6),(36,SQ),(7,adV)]
theorem aoE {a:Addr}:MEk a ao2:=((((MEk.nil.cons agk).cons λB hB=>Tc B hB.gU).cons aod).cons λB hB=>Y9 B hB.gU).cons λB hB=>tP B hB.gU
abbrev U1:=Int×List Un×List RS
def aon (I1:U1->Prop) (I2:F2->Prop) (N1 N2:Int):zdX:=λf k=>bif Nat.beq f 4 then(
 bif Nat.beq k 7 then some (λA=>{X:=U1,inv:=I1,tm:=λx=> [(10, .val (.int .i64 x.1)),(9, .slc (A.nx+1) 0 x.2.2.length)],st:= [(kA A 7,λx=>(qv A 7 0).take 1++(SV.slc A.nx 0 x.2.1.length::(qv A 7 0).drop 2))],gr:= [{src:= .cell (kA A 7) 0 1,sz:=20,n:=λx=>x.2.1.length,get:=λx=>eU.get x.2.1},{src:= .slot 9,sz:=2,n:=λx=>x.2.2.length,get:=λx=>eR.get x.2.2}],cleanG:=λg hg x e=>(by simp at hg;rcases hg with rfl|rfl;exact eU.ids _;exact eR.ids _),mu:=λx=>(N1 - x.1).toNat,keep:= [4,5,6,7,8]})
 else bif Nat.beq k 16 then some (λA=>{X:=F2,inv:=I2,tm:=λx=> [(16, .val (.int .i64 x.1))],st:= [(kA A 7,λx=>(qv A 7 0).take 2++(SV.slc A.nx 0 x.2.length::(qv A 7 0).drop 3))],gr:= [{src:= .cell (kA A 7) 0 2,sz:=26,n:=λx=>x.2.length,get:=λx=>eN.get x.2}],cleanG:=λg hg x e=>(by simp at hg;subst hg;exact eN.ids _),mu:=λx=>(N2 - x.1).toNat,keep:= [4,5,6,7,8,9]})
 else none) else none
abbrev aoP (p:Addr) (I1:U1->Prop) (I2:F2->Prop) (N1 N2:Int) (a b c k:Int) (xs:List I4) (vs:List Int) (Q:zdT):Prop:=
 XC p gBs ao2 (aon I1 I2 N1 N2) 8 4 [al2 a b c k xs.length, .slc 1 0 vs.length] [e4.old xs,e1.old vs] (Go.Sy.okK λr _ _ _=>Q r)
def ao8 (n m:Nat) (i:Int) (K:Prop):Prop:=af (decide (0<=i)&&decide (i<(n:Int))&&decide (0+i.toNat<m)) (af (decide (0+i.toNat<m)) K)
def unK (m:Nat) (R:Prop):Prop:=tvE (cB.enc false)/\tvE (cB.enc true)/\cg 17/\cg 22/\tvE (.slc 28 0 (m:Int).toNat)/\R
def aoF (p:Pr) (s:SV):zdM:= .val (.int .i64 p.id)::s:: .val (.slice none 0 0)::ci noU
def aoG (p:Pr) (n0:Nat) (s:SV):zdM:= .val (.int .i64 p.id):: .slc 32 0 n0::s::ci noU
def ao9 (p:Pr) (q1 q2:Nat) (i:Int) (m1:Nat) (g1:zdP) (m2:Nat) (g2:zdP) (z:U1):Prop:=
 (TV.v (cI.enc i)=TV.v (cI.enc z.1)/\TV.v (.slc q2 0 m2)=TV.v (.slc q2 0 z.2.2.length)/\unK p.inp.length True)/\(True/\((aoF p (.slc q1 0 m1)=aoF p (.slc q1 0 z.2.1.length)/\True)/\
   (af (Nat.beq 20 20&&decide (z.2.1.length<=m1)) (∀e,e<z.2.1.length->g1 e=eU.get z.2.1 e)/\(af (Nat.beq 2 2&&decide (z.2.2.length<=m2)) (∀e,e<z.2.2.length->g2 e=eR.get z.2.2 e)/\True))))
def ao3 (p:Pr) (n0 n1 q:Nat) (i:Int) (m:Nat) (g:zdP) (z:F2):Prop:=
 (TV.v (cI.enc i)=TV.v (cI.enc z.1)/\unK p.inp.length (tvE (.slc 33 0 n1)/\True))/\(True/\((aoG p n0 (.slc q 0 m)=aoG p n0 (.slc q 0 z.2.length)/\True)/\(af (Nat.beq 26 26&&decide (z.2.length<=m)) (∀e,e<z.2.length->g e=eN.get z.2 e)/\True)))
def rdQ (p:Pr) (us:ze1) (l:ze2) (u:Un):Pr:=⟨p.id,eU.list us.length (eU.get us),eN.list l.length (eN.get l),u⟩
def ndQ (us:ze1) (l:ze2) (u:Un):Bool:=ali us.length (eU.get us) l.length (eN.get l) u
def evQ (us:ze1) (l:ze2) (u:Un) (n:Nat) (ws:List RS):Bool:=ndQ us l u&&(Nat.ble n ws.length&&Nat.beq 2 2&&true)&&bW n&&eR.good uzR n (eR.get ws)
def unE (p:Pr) (vs:List RS) (us:ze1) (ws:List RS) (l:ze2) (Q:zdT):Prop:=
 n9 (evQ p.inp p.nod p.out (p.inp.length:Int).toNat vs) (n9 (evQ us l (nd p.out) ws.length ws) (n9 (ndQ p.inp p.nod p.out&&VM (rdQ p p.inp p.nod p.out)) (n9 (ndQ us l (nd p.out)&&VM (rdQ p us l (nd p.out))) (
  ag (bif (bn (rdQ p p.inp p.nod p.out) (eR.list (p.inp.length:Int).toNat (eR.get vs))).2 !=0 then true else(bn (rdQ p us l (nd p.out)) (eR.list ws.length (eR.get ws))).2 !=0) (Q (cB.enc true)) (
  af (uzR p.out.f&&uzR (bn (rdQ p p.inp p.nod p.out) (eR.list (p.inp.length:Int).toNat (eR.get vs))).1) (Q (cB.enc (bif (ale p.out.f (bn (rdQ p p.inp p.nod p.out) (eR.list (p.inp.length:Int).toNat (eR.get vs))).1).2 !=0 then true else
   eqR (ale p.out.f (bn (rdQ p p.inp p.nod p.out) (eR.list (p.inp.length:Int).toNat (eR.get vs))).1).1 (bn (rdQ p us l (nd p.out)) (eR.list ws.length (eR.get ws))).1))))))))
def ao4 (I2:F2->Prop) (N2:Int) (p:Pr) (vs:List RS) (us:ze1) (ws:List RS) (Q:zdT):Prop:=
 ∃z0:F2,I2 z0/\(((TV.v (cI.enc 0)=TV.v (cI.enc z0.1)/\unK p.inp.length (tvE (.slc 33 0 ws.length)/\True))/\(True/\((aoG p us.length (.val (.slice none 0 0))=aoG p us.length (.val (.slice none z0.2.length 0))/\True)/\(z0.2.length=0/\True))))/\
  ∀z:F2,I2 z->ag (decide (z.1<(p.nod.length:Int))) (eO p.nod.length z.1 (ag ((eN.nth p.nod (0+z.1.toNat)).op==1)
   (af (uzR (eN.nth p.nod (0+z.1.toNat)).u.f&&uzR (eN.nth p.nod (0+z.1.toNat)).v) (ag (bif !((eN.nth p.nod (0+z.1.toNat)).u.s !=0) then true else(ale (eN.nth p.nod (0+z.1.toNat)).u.f (eN.nth p.nod (0+z.1.toNat)).v).2 !=0) (Q (cB.enc (!((eN.nth p.nod (0+z.1.toNat)).u.s !=0))))
     (LY z.2.length (af (inR .i64 (z.1+1)) (∃z':F2,I2 z'/\((N2 - z'.1).toNat<(N2 - z.1).toNat/\ao3 p us.length ws.length 94 (z.1+1) (z.2.length+1) (gv z.2 {eN.nth p.nod (0+z.1.toNat) with v:=(ale (eN.nth p.nod (0+z.1.toNat)).u.f (eN.nth p.nod (0+z.1.toNat)).v).1,u:=nd (eN.nth p.nod (0+z.1.toNat)).u}) z'))))))
   (LY z.2.length (af (inR .i64 (z.1+1)) (∃z':F2,I2 z'/\((N2 - z'.1).toNat<(N2 - z.1).toNat/\ao3 p us.length ws.length 60 (z.1+1) (z.2.length+1) (gv z.2 (eN.nth p.nod (0+z.1.toNat))) z'))))))
   (unE p vs us ws z.2 Q))
def ao5 (I1:U1->Prop) (I2:F2->Prop) (N1 N2:Int) (p:Pr) (vs:List RS) (Q:zdT):Prop:=
 ∃x0:U1,I1 x0/\(((TV.v (cI.enc 0)=TV.v (cI.enc x0.1)/\TV.v (.val (.slice none 0 0))=TV.v (.val (.slice none x0.2.2.length 0))/\unK p.inp.length True)/\(True/\((aoF p (.val (.slice none 0 0))=aoF p (.val (.slice none x0.2.1.length 0))/\True)/\(x0.2.1.length=0/\(x0.2.2.length=0/\True)))))/\
  ∀x:U1,I1 x->ag (decide (x.1<(p.inp.length:Int))) (eO p.inp.length x.1 (ao8 (p.inp.length:Int).toNat vs.length x.1 (
   af (uzR (eU.nth p.inp (0+x.1.toNat)).f&&uzR (eR.nth vs (0+x.1.toNat))) (ag (bif !((eU.nth p.inp (0+x.1.toNat)).s !=0) then true else(ale (eU.nth p.inp (0+x.1.toNat)).f (eR.nth vs (0+x.1.toNat))).2 !=0) (Q (cB.enc (!((eU.nth p.inp (0+x.1.toNat)).s !=0))))
    (tO x.2.1.length (LP x.2.2.length (af (inR .i64 (x.1+1)) (∃x':U1,I1 x'/\((N1 - x'.1).toNat<(N1 - x.1).toNat/\ao9 p 76 82 (x.1+1) (x.2.1.length+1) (Jz x.2.1 (nd (eU.nth p.inp (0+x.1.toNat)))) (x.2.2.length+1) (anM x.2.2 (ale (eU.nth p.inp (0+x.1.toNat)).f (eR.nth vs (0+x.1.toNat))).1) x')))))))))
   (ao4 I2 N2 p vs x.2.1 x.2.2 Q))
def unT (I1:U1->Prop) (I2:F2->Prop) (N1 N2:Int) (a b c k:Int) (xs:List I4) (vs:List Int) (Q:zdT):Prop:=
 uK (n9 (Nat.ble xs.length xs.length&&Nat.beq 4 4&&true&&decide (xs.length<=9223372036854775807)&&e4.good uz4 xs.length (e4.get xs)&&cl a&&cl b&&cl c&&cl k) (
  n9 ((Nat.ble vs.length vs.length&&Nat.beq 1 1&&true)&&e1.good cl vs.length (e1.get vs)&&decide (1<=((Bd (a,b,c) k (e4.list xs.length (e4.get xs)) true).inp.length:Int))&&decide (((Bd (a,b,c) k (e4.list xs.length (e4.get xs)) true).inp.length:Int)<=1000000)) (
  ao5 I1 I2 N1 N2 (Bd (a,b,c) k (e4.list xs.length (e4.get xs)) true) (vu (e1.list vs.length (e1.get vs)) ((Bd (a,b,c) k (e4.list xs.length (e4.get xs)) true).inp.length:Int).toNat) Q)))
theorem aoU (p:Addr) (I1:U1->Prop) (I2:F2->Prop) (N1 N2:Int) (a b c k:Int) (xs:List I4) (vs:List Int) (Q:zdT):aoP p I1 I2 N1 N2 a b c k xs vs Q=unT I1 I2 N1 N2 a b c k xs vs Q:=by kernel_rfl
theorem anp (u:Un):nd u={u with f:=rI}:=by unfold nd;rw[show (rMk 1 1).1=rI from by kernel_rfl]
structure GU (u:Un):Prop where
 v:VK u=true
 s:u.s≠0
variable {D:D7} {f:RS}
theorem GU.mk' (h1:pr D=true) (h2:rV f=true) (h3:0<qV f) (h4:0<=k/\k<=100):GU (bT D f k):=⟨Xo h1 h2 h3 h4,X3 D f k⟩
theorem aoQ:rV rI=true:=by decide
theorem aoV:0<qV rI:=by rw[Zl];decide
theorem anb (D:D7) (f:RS) (k:Int):nd (bT D f k)=bT D rI k:=by rw[anp];rfl
variable {u:Un}
theorem GU.base_eq (h:GU u):nd u=bT u.d rI u.k:=by
 have e:=(WE.1 h.v).2.2.2.2.2.resolve_left h.s;have e2:=congrArg (λw:Un=>({w with f:=rI}:Un)) e;rw[anp];exact e2
theorem GU.base (h:GU u):GU (nd u):=by
 have e:=WE.1 h.v;rw[h.base_eq];exact GU.mk' e.1 aoQ aoV e.2.2.2.2.1
theorem GU.fac (h:GU u):aU u=true:=Xh.2 ⟨h.v,h.s⟩
theorem apa (u:Un):(nd u).d=u.d:=rfl
theorem apb (u:Un):(nd u).k=u.k:=rfl
theorem an7 (u:Un):(nd u).f=rI:=by rw[anp]
variable {a b:Un}
theorem an8 (h:jk a b=true) (hs:b.s≠0):iS a b=(a,0):=by
 unfold iS;rw[h,show (b.s==0)=false by simpa using hs];simp
theorem anG (h:jk a b=true) (hs:b.s≠0):fw a b=(a,0):=by
 unfold fw;rw[h,show (b.s !=0)=true by simpa using hs];rfl
theorem anz (h:(iS a b).2=0):jk a b=true:=by
 cases ha:jk a b with
 |true=>rfl
 |false=>unfold iS at h;rw[ha] at h;exact absurd (show (70:Int)=0 from h) (by decide)
theorem anq (h:(fw a b).2=0):jk a b=true:=by
 cases ha:jk a b with
 |true=>rfl
 |false=>unfold fw at h;rw[ha] at h;exact absurd (show (70:Int)=0 from h) (by decide)
theorem anr (ha:GU a) (hb:GU b) (h:jk a b=true):jk (nd a) (nd b)=true:=by
 obtain⟨_,_,h3,_,h5⟩:=Wj.1 h;exact Wj.2 ⟨ha.base.v,hb.base.v,h3,by rw[an7,an7],h5⟩
theorem anA {f:RS×Int} (h:(qi (eS D) f k).2=0):pr D=true/\f.2=0/\qi (eS D) f k=(bT D f.1 k,0):=by
 unfold qi at h ⊢;obtain⟨u1,u2⟩:=XH D;cases hD:(eS D).2 with
 |false=>rw[hD] at h;exact absurd (show (70:Int)=0 from h) (by decide)
 |true=>
  rw[hD] at h;have hf:=u1.symm.trans hD;rw[u2 hf];cases hb:f.2 !=0 with
  |true=>rw[hb] at h;exact absurd (show (70:Int)=0 from h) (by decide)
  |false=>exact⟨hf,by simpa using hb,rfl⟩
theorem anO {f:RS×Int} (h1:pr D=true) (h2:f.2=0):qi (eS D) f k=(bT D f.1 k,0):=by
 obtain⟨u1,u2⟩:=XH D;unfold qi;rw[u1,h1,u2 h1,h2];rfl
theorem anH:ale rI rI=(rI,0):=by kernel_rfl
theorem anI:cA rI rI=(rI,0):=by kernel_rfl
theorem GU.pos (h:GU u):0<qV u.f:=(WE.1 h.v).2.2.2.1
theorem GU.kin (h:GU u):0<=u.k/\u.k<=100:=(WE.1 h.v).2.2.2.2.1
theorem anP (ha:GU a) (hb:GU b) (h:(mi a b).2=0):mi (nd a) (nd b)=(nd (mi a b).1,0)/\GU (mi a b).1/\qV (mi a b).1.f=qV a.f*qV b.f:=by
 have e:mi a b=qi (eS (ku (kw 1) a.d b.d)) (ale a.f b.f) (bif 2==b.s then a.k else bif 2==a.s then b.k else 0):=by unfold mi;rw[ha.fac,hb.fac];rfl
 rw[e] at h ⊢;obtain⟨h1,h2,h3⟩:=anA h;obtain⟨v1,v2⟩:=am2 h2;have e':mi (nd a) (nd b)=qi (eS (ku (kw 1) a.d b.d)) (ale rI rI) (bif 2==b.s then a.k else bif 2==a.s then b.k else 0):=by
  unfold mi;rw[ha.base.fac,hb.base.fac,an7,an7];rfl
 rw[h3,e',anO h1 (by rw[anH]),anH];refine⟨by rw[anb],GU.mk' h1 v1 (by rw[v2];exact Rat.mul_pos ha.pos hb.pos) ?_,v2⟩;have:=ha.kin;have:=hb.kin;cases (2==b.s)<;>cases (2==a.s)<;>simp_all
theorem anQ (ha:GU a) (hb:GU b) (h:(fd a b).2=0):fd (nd a) (nd b)=(nd (fd a b).1,0)/\GU (fd a b).1/\qV (fd a b).1.f=qV a.f / qV b.f:=by
 have e:fd a b=qi (eS (ku (kw (-1)) a.d b.d)) (cA a.f b.f) (bif b.s==2 then a.k else 0):=by unfold fd;rw[ha.fac,hb.fac];rfl
 rw[e] at h ⊢;obtain⟨h1,h2,h3⟩:=anA h;obtain⟨_,v1,v2⟩:=am9 h2;have e':fd (nd a) (nd b)=qi (eS (ku (kw (-1)) a.d b.d)) (cA rI rI) (bif b.s==2 then a.k else 0):=by
  unfold fd;rw[ha.base.fac,hb.base.fac,an7,an7];rfl
 rw[h3,e',anO h1 (by rw[anI]),anI];have hp:0<qV a.f / qV b.f:=by
  have h1:=ha.pos;have h2:=hb.pos;rw[Rat.div_def];exact Rat.mul_pos h1 (Rat.inv_pos.2 h2)
 refine⟨by rw[anb],GU.mk' h1 v1 (by rw[v2];exact hp) ?_,v2⟩;have:=ha.kin;cases (b.s==2)<;>simp_all
theorem anR: ∀n,bV rI n=(false,rI)
 |0=>rfl
 |n+1=>by
  rw[bV,anR n];unfold Yk.stepF;rw[anH];rfl
theorem aoH (n:Int):invF n (false,rI)=(false,rI):=by
 unfold invF;rw[anI];cases decide (n<0)<;>rfl
theorem ans {f:RS}: ∀{n:Nat},(bV f n).1=false->rV (bV f n).2=true/\qV (bV f n).2=qV f^n
 |0,_=>⟨(show rV rI=true by decide),by show qV rI=_;rw[Zl];simp⟩
 |n+1,h=>by
  unfold bV Yk.stepF at h ⊢;cases hn:(bV f n).1 with
  |true=>rw[hn] at h;replace h:(bV f n).1=false:=h;rw[hn] at h;cases h
  |false=>
   obtain⟨i1,i2⟩:=ans hn;rw[hn] at h;simp only[zbg,zdt,zbi] at h ⊢;obtain⟨v1,v2⟩:=am2 (a:=(bV f n).2) (b:=f) (by simpa using h);exact⟨v1,by rw[v2,i2,Rat.pow_succ]⟩
def ant (q:Rat) (n:Int):Rat:=if n<0 then 1 / q^n.natAbs else q^n.natAbs
theorem anS (ha:GU a) (hn: -4<=n/\n<=4) (h:(jm a (n,1)).2=0):jm (nd a) (n,1)=(nd (jm a (n,1)).1,0)/\GU (jm a (n,1)).1/\qV (jm a (n,1)).1.f=ant (qV a.f) n:=by
 unfold jm at h ⊢;rw[Y5 (by omega),ha.fac] at h;rw[Y5 (by omega),ha.fac,ha.base.fac];simp only[zbh,Bool.or_self,zbi,bne_self_eq_false,Bool.false_and,zds,BEq.rfl,zdt] at h ⊢;rw[an7,anR,aoH,apa,apb];obtain⟨u1,u2⟩:=XH (wV (n,1) a.d);cases hD:(eS (wV (n,1) a.d)).2 with
 |false=>rw[hD] at h;exact absurd (show (70:Int)=0 from h) (by decide)
 |true=>
  have hf:=u1.symm.trans hD;rw[hD] at h;rw[u2 hf];cases hI:(Yk.invF n (bV a.f n.natAbs)).1 with
  |true=>rw[hI] at h;exact absurd (show (70:Int)=0 from h) (by decide)
  |false=>
   have key:rV (Yk.invF n (bV a.f n.natAbs)).2=true/\qV (Yk.invF n (bV a.f n.natAbs)).2=ant (qV a.f) n:=by
    unfold Yk.invF at hI ⊢;unfold ant;cases hneg:decide (n<0) with
    |true=>
     have hneg:=zdw hneg;cases hit:(bV a.f n.natAbs).1 with
     |true=>rw[zdr hneg,hit] at hI;replace hI:(bV a.f n.natAbs).1=false:=hI;rw[hit] at hI;cases hI
     |false=>
      obtain⟨i1,i2⟩:=ans hit;rw[zdr hneg,hit] at hI;simp only[zbg,zc6,zdt] at hI ⊢;obtain⟨_,g1,g2⟩:=am9 (a:=rI) (b:=(bV a.f n.natAbs).2) (by simpa using hI);rw[if_pos hneg];exact⟨g1,by rw[g2,i2,Zl]⟩
    |false=>
     have hneg:=zdx hneg;rw[zdu hneg] at hI;simp only[Bool.false_and,zds] at hI ⊢;obtain⟨i1,i2⟩:=ans hI;rw[if_neg hneg];exact⟨i1,i2⟩
   have hp:0<ant (qV a.f) n:=by
    have:=Rat.pow_pos (n:=n.natAbs) ha.pos;unfold ant;split
    ·rw[Rat.div_def,Rat.one_mul];exact Rat.inv_pos.2 this
    ·exact this
   refine⟨?_,GU.mk' hf key.1 (by rw[key.2];exact hp) ?_,key.2⟩
   ·simp only[zbh,Bool.or_false,zds];rw[anb]
   ·have:=ha.kin;cases eq2 (n,1) (1,1)<;>simp_all
def am3 (x:Nd):Nd:=bif x.op==1 then {x with v:=(ale x.u.f x.v).1,u:=nd x.u} else x
theorem anu {α β:Type} {d:α} {d':β} {f:α->β} {l:List α} (h:e<l.length):mb d' (l.map f) e=f (mb d l e):=bR (by rw[zaL,Co (d:=d) h];rfl)
variable {x:Nd}
theorem aoW (h:x.op≠1):am3 x=x:=by unfold am3;rw[show (x.op==1)=false by simpa using h];rfl
def anf (x:Nd):Prop:=x.op≠8/\(x.op=1->x.u.s≠0/\(ale x.u.f x.v).2=0)
theorem anT {n:Nat} (h:VT n x=true):x.op=1\/x.op=2\/x.op=3\/x.op=4\/x.op=5\/x.op=6\/x.op=7\/x.op=8:=by
 unfold VT at h;cases h1:x.op==1 with
 |true=>exact .inl (by simpa using h1)
 |false=>
  rw[h1,zds] at h;cases h2:x.op==2 with
  |true=>exact .inr (.inl (by simpa using h2))
  |false=>
   rw[h2,zds] at h;cases h3:(decide (3<=x.op)&&decide (x.op<=6)) with
   |true=>
    simp only[za2,zdv] at h3;omega
   |false=>
    rw[h3,zds] at h;cases h4:x.op==7 with
    |true=>have:x.op=7:=by simpa using h4
           omega
    |false=>
     rw[h4,zds] at h;cases h5:x.op==8 with
     |true=>have:x.op=8:=by simpa using h5
            omega
     |false=>rw[h5] at h;cases h
theorem vl {n:Nat} {i:Int} (h:earF n i=true):0<=i/\i<n:=by
 unfold earF at h;simpa using h
variable {inp us:ze1}
theorem anU (hi: ∀v∈inp,GU v) (hu: ∀v∈us,GU v) (hc:anf x) (h:mn inp us x=some u):mn (inp.map nd) (us.map nd) (am3 x)=some (nd u)/\GU u:=by
 obtain⟨h8,h1⟩:=hc;have hs:VT us.length x=true/\(fL inp us x).2=0/\(fL inp us x).1=u:=by
  unfold mn at h;cases hh:(VT us.length x&&(fL inp us x).2==0) with
  |false=>rw[hh] at h;cases h
  |true=>
   rw[hh] at h;simp only[za2,zdA] at hh;simp only[zdt,za1] at h;exact⟨hh.1,hh.2,h⟩
 obtain⟨hf,h0,he⟩:=hs;have gu: ∀{i:Int},0<=i/\i<us.length->GU (mb noU us i.toNat):=λ{i} h=>hu _ (bw (by omega));have mu: ∀{i:Int},0<=i/\i<us.length->mb noU (us.map nd) i.toNat=nd (mb noU us i.toNat):=λ{i} h=>anu (by omega);have done: ∀{y:Nd} {v:Un},VT us.length y=true->fL (inp.map nd) (us.map nd) y=(v,0)->mn (inp.map nd) (us.map nd) y=some v:=λ{y v} k1 k2=>by
  unfold mn;rw[zaB,k1,k2];rfl
 obtain⟨op,v,w,n,l,r⟩:=x;rcases anT hf with e|e|e|e|e|e|e|e<;>dsimp only at e<;>subst e
 ·obtain⟨s1,s2⟩:=h1 rfl;dsimp only at s1 s2;have h0:(bif rV v&&VK w then(w,(0:Int)) else(noU,90)).2=0:=h0;have he:(bif rV v&&VK w then(w,(0:Int)) else(noU,90)).1=u:=he;cases hb:(rV v&&VK w) with
  |false=>rw[hb] at h0;exact absurd (show (90:Int)=0 from h0) (by decide)
  |true=>
   rw[hb] at he;obtain rfl:w=u:=he;rw[za2] at hb;have g:GU w:=⟨hb.2,s1⟩;refine⟨done (y:=am3 ⟨1,v,w,n,l,r⟩) hf ?_,g⟩;show (bif rV (ale w.f v).1&&VK (nd w) then(nd w,(0:Int)) else(noU,90))=_;rw[(am2 s2).1,g.base.v];rfl
 ·have h0:(bif decide (0<=n)&&decide (n<(inp.length:Int)) then(mb noU inp n.toNat,(0:Int)) else(noU,90)).2=0:=h0;have he:(bif decide (0<=n)&&decide (n<(inp.length:Int)) then(mb noU inp n.toNat,(0:Int)) else(noU,90)).1=u:=he;cases hb:(decide (0<=n)&&decide (n<(inp.length:Int))) with
  |false=>rw[hb] at h0;exact absurd (show (90:Int)=0 from h0) (by decide)
  |true=>
   rw[hb] at he;obtain rfl:mb noU inp n.toNat=u:=he;have hb':=hb;simp only[za2,zdv] at hb;refine⟨done (y:=am3 ⟨2,v,w,n,l,r⟩) hf ?_,hi _ (bw (by omega))⟩;show (bif decide (0<=n)&&decide (n<((inp.map nd).length:Int)) then(mb noU (inp.map nd) n.toNat,(0:Int)) else(noU,90))=_;rw[zaB,hb',anu (d:=noU) (by omega)];rfl
 ·have hf':(eqN ⟨0,v,w,n,0,0⟩ noN&&earF us.length l&&earF us.length r)=true:=hf;simp only[za2] at hf';have e1:=vl hf'.1.2;have e2:=vl hf'.2;have h0:(iS (mb noU us l.toNat) (mb noU us r.toNat)).2=0:=h0;have he:(iS (mb noU us l.toNat) (mb noU us r.toNat)).1=u:=he;have al:=anz h0;rw[an8 al (gu e2).s] at he;subst he;refine⟨done (y:=am3 ⟨3,v,w,n,l,r⟩) hf ?_,gu e1⟩;show iS (mb noU (us.map nd) l.toNat) (mb noU (us.map nd) r.toNat)=_;rw[mu e1,mu e2,an8 (anr (gu e1) (gu e2) al) (gu e2).base.s]
 ·have hf':(eqN ⟨0,v,w,n,0,0⟩ noN&&earF us.length l&&earF us.length r)=true:=hf;simp only[za2] at hf';have e1:=vl hf'.1.2;have e2:=vl hf'.2;have h0:(fw (mb noU us l.toNat) (mb noU us r.toNat)).2=0:=h0;have he:(fw (mb noU us l.toNat) (mb noU us r.toNat)).1=u:=he;have al:=anq h0;rw[anG al (gu e2).s] at he;subst he;refine⟨done (y:=am3 ⟨4,v,w,n,l,r⟩) hf ?_,gu e1⟩;show fw (mb noU (us.map nd) l.toNat) (mb noU (us.map nd) r.toNat)=_;rw[mu e1,mu e2,anG (anr (gu e1) (gu e2) al) (gu e2).base.s]
 ·have hf':(eqN ⟨0,v,w,n,0,0⟩ noN&&earF us.length l&&earF us.length r)=true:=hf;simp only[za2] at hf';have e1:=vl hf'.1.2;have e2:=vl hf'.2;obtain⟨b1,b2,_⟩:=anP (gu e1) (gu e2) h0;have he:(mi (mb noU us l.toNat) (mb noU us r.toNat)).1=u:=he;subst he;refine⟨done (y:=am3 ⟨5,v,w,n,l,r⟩) hf ?_,b2⟩;show mi (mb noU (us.map nd) l.toNat) (mb noU (us.map nd) r.toNat)=_;rw[mu e1,mu e2,b1]
 ·have hf':(eqN ⟨0,v,w,n,0,0⟩ noN&&earF us.length l&&earF us.length r)=true:=hf;simp only[za2] at hf';have e1:=vl hf'.1.2;have e2:=vl hf'.2;obtain⟨b1,b2,_⟩:=anQ (gu e1) (gu e2) h0;have he:(fd (mb noU us l.toNat) (mb noU us r.toNat)).1=u:=he;subst he;refine⟨done (y:=am3 ⟨6,v,w,n,l,r⟩) hf ?_,b2⟩;show fd (mb noU (us.map nd) l.toNat) (mb noU (us.map nd) r.toNat)=_;rw[mu e1,mu e2,b1]
 ·have hf':(eqN ⟨0,v,w,0,0,r⟩ noN&&earF us.length l)=true:=hf;simp only[za2] at hf';have e1:=vl hf'.2;have h0:(bif n==0||decide (n< -4)||decide (n>4) then(noU,(90:Int)) else jm (mb noU us l.toNat) (n,1)).2=0:=h0;have he:(bif n==0||decide (n< -4)||decide (n>4) then(noU,(90:Int)) else jm (mb noU us l.toNat) (n,1)).1=u:=he;cases hb:(n==0||decide (n< -4)||decide (n>4)) with
  |true=>rw[hb] at h0;exact absurd (show (90:Int)=0 from h0) (by decide)
  |false=>
   rw[hb] at h0 he;have hb':=hb;simp only[zbs,zdB] at hb;obtain⟨b1,b2,_⟩:=anS (gu e1) (n:=n) (by omega) h0;have he:(jm (mb noU us l.toNat) (n,1)).1=u:=he;subst he;refine⟨done (y:=am3 ⟨7,v,w,n,l,r⟩) hf ?_,b2⟩;show (bif n==0||decide (n< -4)||decide (n>4) then(noU,(90:Int)) else jm (mb noU (us.map nd) l.toNat) (n,1))=_;rw[hb',mu e1,b1];rfl
 ·exact absurd rfl h8
theorem anV {inp:ze1} (hi: ∀v∈inp,GU v): ∀{l:ze2} {us vs:ze1},(∀x∈l,anf x)->(∀v∈us,GU v)->iB inp l us=(vs,true)->iB (inp.map nd) (l.map am3) (us.map nd)=(vs.map nd,true)/\ ∀v∈vs,GU v
 | [],us,vs,_,hu,h=>by
   simp only[iB,zag,and_true] at h;subst h;exact⟨rfl,hu⟩
 |x::l,us,vs,hc,hu,h=>by
  simp only[iB] at h;cases e:mn inp us x with
  |none=>rw[e] at h;simp at h
  |some u=>
   rw[e] at h;obtain⟨t1,t2⟩:=anU hi hu (hc x (zbF ..)) e
   have:=anV hi (λy hy=>hc y (zan _ hy)) (us:=us++ [u]) (λv hv=>by
    rcases za8.1 hv with hv|hv
    ·exact hu v hv
    ·rw[zaj.1 hv];exact t2) h
   rw[zb8] at this;rw[zaK,iB,t1];exact this
theorem anW {b:RS}: ∀{k:Nat} {w:RS},kC b k=some w->rV w=true/\qV w=qV b^k
 |0,w,h=>by
  simp[kC] at h;subst h;exact⟨aoQ,by rw[Zl];simp⟩
 |k+1,w,h=>by
  simp only[kC] at h;split at h
  ·rename_i v hv;obtain⟨i1,i2⟩:=anW hv;obtain⟨e1,rfl⟩:=fq h;obtain⟨g1,g2⟩:=am2 e1;exact⟨g1,by rw[g2,i2,Rat.pow_succ]⟩
  ·cases h
theorem aoo (n:Int):(jH n).toNat=n.natAbs:=by unfold jH;split<;>omega
theorem anX (a b:Rat): ∀n:Nat,(a*b)^n=a^n*b^n
 |0=>by simp
 |n+1=>by rw[Rat.pow_succ,Rat.pow_succ,Rat.pow_succ,anX a b n];grind
theorem aop (a b:Rat) (n:Int):ant (a*b) n=ant a n*ant b n:=by
 unfold ant;rw[anX];split
 ·rw[Rat.div_def,Rat.div_def,Rat.div_def,Rat.inv_mul_rev];grind
 ·rfl
theorem an9 {b:RS} (h:(match kC b (jH n).toNat with
 |some v=>bif decide (n<0) then okR (cA rI v) else some v
 |none=>none)=some v):rV v=true/\qV v=ant (qV b) n:=by
 split at h
 ·rename_i w hw;obtain⟨i1,i2⟩:=anW hw;rw[aoo] at i2;unfold ant;cases hn:decide (n<0) with
  |true=>
   rw[hn] at h;obtain⟨e1,rfl⟩:=fq h;obtain⟨_,g1,g2⟩:=am9 e1;rw[if_pos (zdw hn)];exact⟨g1,by rw[g2,i2,Zl]⟩
  |false=>
   rw[hn] at h;obtain rfl:w=v:=by simpa using h
   rw[if_neg (zdx hn)];exact⟨i1,i2⟩
 ·cases h
variable {ins ins':List RS}
theorem aoq {vs vs':List RS} {v':RS} (hu: ∀w∈us,GU w) (hc:anf x) (h:mn inp us x=some u)
 (hi: ∀e,e<inp.length->rV (mb VI ins' e)=true/\qV (mb VI ins' e)=qV (mb noU inp e).f*qV (mb VI ins e)) (hv: ∀e,e<us.length->rV (mb VI vs' e)=true/\qV (mb VI vs' e)=qV (mb noU us e).f*qV (mb VI vs e))
 (k:valF ins vs x=some v) (k':valF ins' vs' (am3 x)=some v'):rV v'=true/\qV v'=qV u.f*qV v:=by
 obtain⟨h8,h1⟩:=hc;obtain⟨hf,h0,he⟩:=vN h;have gu: ∀{i:Int},0<=i/\i<us.length->GU (mb noU us i.toNat):=λ{i} h=>hu _ (bw (by omega));have av: ∀{i:Int},0<=i/\i<us.length->qV (mb VI vs' i.toNat)=qV (mb noU us i.toNat).f*qV (mb VI vs i.toNat):=λ{i} h=>(hv i.toNat (by omega)).2;obtain⟨op,y,w,n,l,r⟩:=x;rcases anT hf with e|e|e|e|e|e|e|e<;>dsimp only at e<;>subst e
 ·obtain⟨s1,s2⟩:=h1 rfl;dsimp only at s1 s2;have h0:(bif rV y&&VK w then(w,(0:Int)) else(noU,90)).2=0:=h0;have he:(bif rV y&&VK w then(w,(0:Int)) else(noU,90)).1=u:=he;cases hb:(rV y&&VK w) with
  |false=>rw[hb] at h0;exact absurd (show (90:Int)=0 from h0) (by decide)
  |true=>
   rw[hb] at he;obtain rfl:w=u:=he;obtain rfl:y=v:=zbk k;obtain rfl:(ale w.f y).1=v':=zbk k';exact am2 s2
 ·have h0:(bif decide (0<=n)&&decide (n<(inp.length:Int)) then(mb noU inp n.toNat,(0:Int)) else(noU,90)).2=0:=h0;have he:(bif decide (0<=n)&&decide (n<(inp.length:Int)) then(mb noU inp n.toNat,(0:Int)) else(noU,90)).1=u:=he;cases hb:(decide (0<=n)&&decide (n<(inp.length:Int))) with
  |false=>rw[hb] at h0;exact absurd (show (90:Int)=0 from h0) (by decide)
  |true=>
   rw[hb] at he;obtain rfl:mb noU inp n.toNat=u:=he;simp only[za2,zdv] at hb;obtain rfl:mb VI ins n.toNat=v:=zbk k;obtain rfl:mb VI ins' n.toNat=v':=zbk k';exact hi _ (by omega)
 ·have hf':(eqN ⟨0,y,w,n,0,0⟩ noN&&earF us.length l&&earF us.length r)=true:=hf;simp only[za2] at hf';have e1:=vl hf'.1.2;have e2:=vl hf'.2;have h0:(iS (mb noU us l.toNat) (mb noU us r.toNat)).2=0:=h0;have he:(iS (mb noU us l.toNat) (mb noU us r.toNat)).1=u:=he;have al:=anz h0;rw[an8 al (gu e2).s] at he;subst he;obtain⟨c1,rfl⟩:=fq (show okR (fZ (mb VI vs l.toNat) (mb VI vs r.toNat))=some v from k);obtain⟨c2,rfl⟩:=fq (show okR (fZ (mb VI vs' l.toNat) (mb VI vs' r.toNat))=some v' from k');obtain⟨g1,g2⟩:=anJ c2;refine⟨g1, ?_⟩;rw[g2,(anJ c1).2,av e1,av e2,<-(Wj.1 al).2.2.2.1];grind
 ·have hf':(eqN ⟨0,y,w,n,0,0⟩ noN&&earF us.length l&&earF us.length r)=true:=hf;simp only[za2] at hf';have e1:=vl hf'.1.2;have e2:=vl hf'.2;have h0:(fw (mb noU us l.toNat) (mb noU us r.toNat)).2=0:=h0;have he:(fw (mb noU us l.toNat) (mb noU us r.toNat)).1=u:=he;have al:=anq h0;rw[anG al (gu e2).s] at he;subst he;obtain⟨c1,rfl⟩:=fq (show okR (iF (mb VI vs l.toNat) (mb VI vs r.toNat))=some v from k);obtain⟨c2,rfl⟩:=fq (show okR (iF (mb VI vs' l.toNat) (mb VI vs' r.toNat))=some v' from k');obtain⟨g1,g2⟩:=anK c2;refine⟨g1, ?_⟩;rw[g2,(anK c1).2,av e1,av e2,<-(Wj.1 al).2.2.2.1];grind
 ·have hf':(eqN ⟨0,y,w,n,0,0⟩ noN&&earF us.length l&&earF us.length r)=true:=hf;simp only[za2] at hf';have e1:=vl hf'.1.2;have e2:=vl hf'.2;obtain⟨_,_,b3⟩:=anP (gu e1) (gu e2) h0;have he:(mi (mb noU us l.toNat) (mb noU us r.toNat)).1=u:=he;subst he;obtain⟨c1,rfl⟩:=fq (show okR (ale (mb VI vs l.toNat) (mb VI vs r.toNat))=some v from k);obtain⟨c2,rfl⟩:=fq (show okR (ale (mb VI vs' l.toNat) (mb VI vs' r.toNat))=some v' from k');obtain⟨g1,g2⟩:=am2 c2;refine⟨g1, ?_⟩;rw[g2,(am2 c1).2,av e1,av e2,b3];grind
 ·have hf':(eqN ⟨0,y,w,n,0,0⟩ noN&&earF us.length l&&earF us.length r)=true:=hf;simp only[za2] at hf';have e1:=vl hf'.1.2;have e2:=vl hf'.2;obtain⟨_,_,b3⟩:=anQ (gu e1) (gu e2) h0;have he:(fd (mb noU us l.toNat) (mb noU us r.toNat)).1=u:=he;subst he;obtain⟨c1,rfl⟩:=fq (show okR (cA (mb VI vs l.toNat) (mb VI vs r.toNat))=some v from k);obtain⟨c2,rfl⟩:=fq (show okR (cA (mb VI vs' l.toNat) (mb VI vs' r.toNat))=some v' from k');obtain⟨_,g1,g2⟩:=am9 c2;refine⟨g1, ?_⟩;rw[g2,(am9 c1).2.2,av e1,av e2,b3,Rat.div_def,Rat.div_def,Rat.div_def,Rat.inv_mul_rev];grind
 ·have hf':(eqN ⟨0,y,w,0,0,r⟩ noN&&earF us.length l)=true:=hf;simp only[za2] at hf';have e1:=vl hf'.2;have h0:(bif n==0||decide (n< -4)||decide (n>4) then(noU,(90:Int)) else jm (mb noU us l.toNat) (n,1)).2=0:=h0;have he:(bif n==0||decide (n< -4)||decide (n>4) then(noU,(90:Int)) else jm (mb noU us l.toNat) (n,1)).1=u:=he;cases hb:(n==0||decide (n< -4)||decide (n>4)) with
  |true=>rw[hb] at h0;exact absurd (show (90:Int)=0 from h0) (by decide)
  |false=>
   rw[hb] at h0 he;simp only[zbs,zdB] at hb;obtain⟨_,_,b3⟩:=anS (gu e1) (n:=n) (by omega) h0;have he:(jm (mb noU us l.toNat) (n,1)).1=u:=he;subst he;obtain⟨_,g1⟩:=an9 (b:=mb VI vs l.toNat) (n:=n) (v:=v) k;obtain⟨g2,g3⟩:=an9 (b:=mb VI vs' l.toNat) (n:=n) (v:=v') k';exact⟨g2,by rw[g3,g1,av e1,b3,aop]⟩
 ·exact absurd rfl h8
theorem anB {inp:ze1} {ins ins':List RS} (hI: ∀v∈inp,GU v) (hi: ∀e,e<inp.length->rV (mb VI ins' e)=true/\qV (mb VI ins' e)=qV (mb noU inp e).f*qV (mb VI ins e)):
 ∀{l:ze2} {us ue:ze1} {vs vs' we we':List RS},(∀x∈l,anf x)->(∀v∈us,GU v)->iB inp l us=(ue,true)->vs.length=us.length->vs'.length=us.length->
  (∀e,e<us.length->rV (mb VI vs' e)=true/\qV (mb VI vs' e)=qV (mb noU us e).f*qV (mb VI vs e))->iC ins l vs=some we->iC ins' (l.map am3) vs'=some we'->
  we.length=ue.length/\we'.length=ue.length/\ ∀e,e<ue.length->rV (mb VI we' e)=true/\qV (mb VI we' e)=qV (mb noU ue e).f*qV (mb VI we e)
 | [],us,ue,vs,vs',we,we',_,_,hu,l1,l2,ha,k,k'=>by
   simp only[iB,zag,and_true] at hu;subst hu;obtain rfl:vs=we:=zbk k;obtain rfl:vs'=we':=zbk k';exact⟨l1,l2,ha⟩
 |x::l,us,ue,vs,vs',we,we',hc,hg,hu,l1,l2,ha,k,k'=>by
  simp only[iB] at hu;cases e:mn inp us x with
  |none=>rw[e] at hu;simp at hu
  |some u=>
   rw[e] at hu;rw[iC] at k;rw[zaK,iC] at k';cases e1:valF ins vs x with
   |none=>rw[e1] at k;cases k
   |some v=>
    cases e2:valF ins' vs' (am3 x) with
    |none=>rw[e2] at k';cases k'
    |some v'=>
     rw[e1] at k;rw[e2] at k';have hx:=hc x (zbF ..);obtain⟨r1,r2⟩:=aoq hg hx e hi ha e1 e2;refine anB hI hi (λy hy=>hc y (zan _ hy)) (λw hw=> ?_) hu (by simp[l1]) (by simp[l2]) (λi hlt=> ?_) k k'
     ·rcases za8.1 hw with hw|hw
      ·exact hg w hw
      ·rw[zaj.1 hw];exact(anU hI hg hx e).2
     ·rw[za3,za6] at hlt;rw[aS,aS,aS];by_cases hq:i=us.length
      ·subst hq;rw[if_pos l2.symm,if_pos rfl,if_pos l1.symm];exact⟨r1,r2⟩
      ·rw[if_neg (by omega),if_neg hq,if_neg (by omega)];exact ha i (by omega)
def am6 (p:Pr):Pr:=⟨p.id,p.inp.map nd,p.nod.map am3,nd p.out⟩
variable {p:Pr}
theorem anC (hv:VM p=true): ∃us,iB p.inp p.nod []=(us,true)/\ly us=p.out/\oB p=true:=by
 unfold VM VJ at hv;cases hb:oB p with
 |false=>rw[hb] at hv;cases hv
 |true=>
  rw[hb] at hv;cases hu:iB p.inp p.nod [] with
  |mk us b=>
   cases b with
   |false=>rw[hu] at hv;cases hv
   |true=>
    rw[hu] at hv;cases he:eqU (ly us) p.out with
    |true=>exact⟨us,rfl,Wh.1 he,rfl⟩
    |false=>simp only[zdt,he] at hv;cases hv
theorem aoe (h:1<=us.length):ly (us.map nd)=nd (ly us):=by
 unfold ly;rw[zaB];exact anu (by omega)
theorem anc {inp:ze1}: ∀{l:ze2} {us vs:ze1},iB inp l us=(vs,true)->vs.length=us.length+l.length
 | [],us,vs,h=>by
   simp only[iB,zag,and_true] at h;subst h;rfl
 |x::l,us,vs,h=>by
  simp only[iB] at h;cases e:mn inp us x with
  |none=>rw[e] at h;simp at h
  |some u=>
   rw[e] at h;have:=anc h;rw[za3,za6] at this;rw[this,za4];omega
theorem anY (hv:VM p=true) (hs: ∀u∈p.inp,u.s≠0) (hc: ∀x∈p.nod,anf x):VM (am6 p)=true:=by
 obtain⟨us,hu,ho,hb⟩:=anC hv;have hb':=Wb.1 hb;have hi: ∀v∈p.inp,GU v:=λv h=>⟨zaf.1 hb'.2.1 v h,hs v h⟩;have hl:=anc hu;rw[za9,za7] at hl;obtain⟨t1,_⟩:=anV hi (us:= []) hc (λv h=>by cases h) hu
 have hb2:oB (am6 p)=true:=Wb.2 ⟨by
  show (1<=p.id/\p.id<=1000000/\(p.inp.map nd).length<=6);rw[zaB];exact hb'.1,zaf.2 λv h=>by
   obtain⟨w,hw,rfl⟩:=zaz.1 h;exact(hi w hw).base.v,by
  show 1<=(p.nod.map am3).length/\(p.nod.map am3).length<=40
  rw[zaB];exact hb'.2.2⟩
 unfold VM VJ;rw[hb2];have t1:iB (am6 p).inp (am6 p).nod []=(us.map nd,true):=t1;rw[t1];simp only[zdt];rw[aoe (by have:=hb'.2.2.1;omega),ho,show eqU (nd p.out) (am6 p).out=true from Wh.2 rfl];rfl
theorem ao6 {a b:RS} (hs: ∀u∈p.inp,u.s≠0) (hc: ∀x∈p.nod,anf x)
 (hi: ∀e,e<p.inp.length->rV (mb VI ins' e)=true/\qV (mb VI ins' e)=qV (mb noU p.inp e).f*qV (mb VI ins e)) (ha:bn p ins=(a,0)) (hb:bn (am6 p) ins'=(b,0)):rV b=true/\qV b=qV p.out.f*qV a:=by
 unfold bn at ha hb;cases h1:(!VM p||ins.length !=p.inp.length|| !ins.all rV) with
 |true=>rw[h1] at ha;exact absurd (show (90:Int)=0 from congrArg Prod.snd ha) (by decide)
 |false=>
  cases h2:(!VM (am6 p)||ins'.length !=(am6 p).inp.length|| !ins'.all rV) with
  |true=>rw[h2] at hb;exact absurd (show (90:Int)=0 from congrArg Prod.snd hb) (by decide)
  |false=>
   rw[h1] at ha;rw[h2] at hb;simp only[zbs,Bool.not_eq_false'] at h1;obtain⟨us,hu,ho,hbg⟩:=anC h1.1.1;have hb':=Wb.1 hbg;have hI: ∀v∈p.inp,GU v:=λv h=>⟨zaf.1 hb'.2.1 v h,hs v h⟩;cases k:iC ins p.nod [] with
   |none=>rw[k] at ha;exact absurd (show (90:Int)=0 from congrArg Prod.snd ha) (by decide)
   |some we=>
    cases k':iC ins' (am6 p).nod [] with
    |none=>rw[k'] at hb;exact absurd (show (90:Int)=0 from congrArg Prod.snd hb) (by decide)
    |some we'=>
     rw[k] at ha;rw[k'] at hb;obtain rfl:CU we=a:=congrArg Prod.fst ha;obtain rfl:CU we'=b:=congrArg Prod.fst hb;obtain⟨l1,l2,hq⟩:=anB hI hi (us:= []) (vs:= []) (vs':= []) hc (λv h=>by cases h) hu rfl rfl (λe h=>absurd h (zbn e)) k k';have hl:=anc hu;rw[za9,za7] at hl;have:=hb'.2.2.1;have h:=hq (us.length - 1) (by omega);unfold CU;rw[l1,l2,<-ho];exact h
def anZ:RS:=(⟨#[49]⟩,⟨#[49,48,48,48]⟩)
def fac2 (u:Un):Bool:=eqR u.f rI||eqR u.f anZ
theorem an0 (h:fac2 u=true):u.f=rI\/u.f=anZ:=by
 unfold fac2 at h;rw[zav,Wg,Wg] at h;exact h
theorem anD (n:Int):fac2 (BL n)=true:=RK fac2 (by kernel_rfl) n
theorem aor:((List.range 13).all λi=>(List.range 4).all λj=> [rI,anZ].all λf=>(ale f (rMk ((i:Int) - 6) (1+(j:Int))).1).2==0)=true:=by kernel_rfl
theorem aos:((List.range 41).all λi=>(List.range 5).all λj=> [rI,anZ].all λf=>(ale f (rMk ((i:Int) - 20) (1+(j:Int))).1).2==0)=true:=by kernel_rfl
theorem apc {a b:Int} (hf:f=rI\/f=anZ) (ha:0<=a/\a<13) (hb:0<=b/\b<4):(ale f (rMk (a - 6) (1+b)).1).2=0:=by
 have h:=zaf.1 aor a.toNat (by simp;omega);have h:=zaf.1 h b.toNat (by simp;omega);have h:=zaf.1 h f (by rcases hf with rfl|rfl<;>simp);rw[show ((a.toNat:Nat):Int)=a by omega,show ((b.toNat:Nat):Int)=b by omega] at h;simpa using h
theorem apd (k:Int) (hf:f=rI\/f=anZ):(ale f (anL k)).2=0:=by
 have b1:=gR k (n:=41) (by decide);have b2:=gR (k.tdiv 41) (n:=5) (by decide);have h:=zaf.1 aos (co k 41).toNat (by simp;omega);have h:=zaf.1 h (co (k.tdiv 41) 5).toNat (by simp;omega);have h:=zaf.1 h f (by rcases hf with rfl|rfl<;>simp);rw[show (((co k 41).toNat:Nat):Int)=co k 41 by omega,show (((co (k.tdiv 41) 5).toNat:Nat):Int)=co (k.tdiv 41) 5 by omega] at h;unfold anL;simpa using h
theorem an1 (ni n:Int) (y:I4):(RR ni n y).op=opF y:=by
 have B: ∀(b:Bool) (x z:Nd),x.op=opF y->z.op=opF y->(cond b x z).op=opF y:=λb x z h k=>by cases b;exact k;exact h
 unfold RR;exact B _ _ _ rfl (B _ _ _ rfl (B _ _ _ rfl (B _ _ _ rfl rfl)))
theorem aot (ni n:Int) (y:I4) (h:(RR ni n y).op=1):(ale (RR ni n y).u.f (RR ni n y).v).2=0:=by
 rw[an1] at h;unfold RR;rw[show (opF y==1)=true by simpa using h,zdt];exact apc (an0 (anD _)) (gR y.2.1 (n:=13) (by decide)) (gR y.2.2.1 (n:=4) (by decide))
theorem anE {inp:ze1}: ∀{xs:List I4} {z:List Nd×List Un},(∀x∈z.1,x.op≠8)-> ∀x∈(RT true inp xs z).1,x.op≠8
 | [],z,h=>h
 |y::r,z,h=>by
  unfold RT;cases hl:decide (z.1.length<14) with
  |false=>exact h
  |true=>
   refine anE (xs:=r) ?_;unfold TH;split
   ·cases hq:(!true||opF y !=8) with
    |false=>exact h
    |true=>
     intro x hx;rcases za8.1 hx with a|a
     ·exact h x a
     ·rw[zaj.1 a,an1];simpa using hq
   ·exact h
theorem anv: ∀{k:Nat},∀x∈R9 k,x.op=2
 |0,x,h=>by cases h
 |k+1,x,h=>by
  rcases za8.1 h with h|h
  ·exact anv x h
  ·rw[zaj.1 h];rfl
section
variable {a:Int×Int×Int} {k:Int} {xs:List I4}
theorem aof: ∀x∈(Bd a k xs true).nod,x.op≠8:=anE λx hx=>by rw[anv x hx];decide
theorem aou: ∀x∈(Bd a k xs true).nod,x.op=1->(ale x.u.f x.v).2=0:=al4 (q:=λx=>x.op=1->(ale x.u.f x.v).2=0) (λn y=>aot _ n y) λx hx h=>by rw[anv x hx] at h;exact absurd h (by decide)
theorem aov: ∀u∈(Bd a k xs true).inp,u.f=rI\/u.f=anZ:=λu hu=>an0 (QT anD u hu)
end
theorem an2 {ins:List RS} (hi: ∀u∈ins,uzR u=true): ∀{l:ze2} {vs we:List RS},(∀x∈l,szN x=true)->(∀u∈vs,uzR u=true)->iC ins l vs=some we-> ∀u∈we,uzR u=true
 | [],vs,we,_,hv,h=>by
   obtain rfl:vs=we:=zbk h;exact hv
 |x::l,vs,we,hl,hv,h=>by
  rw[iC] at h;cases e:valF ins vs x with
  |none=>rw[e] at h;cases h
  |some v=>
   rw[e] at h
   exact an2 hi (λy hy=>hl y (zan _ hy)) (λu hu=>by
    rcases za8.1 hu with hu|hu
    ·exact hv u hu
    ·rw[zaj.1 hu];exact LR (hl x (zbF ..)) hi hv e) h
variable {p:Pr}
theorem aow {ins:List RS} (hi: ∀u∈ins,uzR u=true) (hn: ∀x∈p.nod,szN x=true):uzR (bn p ins).1=true:=by
 unfold bn;cases (!VM p||ins.length !=p.inp.length|| !ins.all rV) with
 |true=>exact tF
 |false=>
  cases e:iC ins p.nod [] with
  |none=>exact tF
  |some we=>exact rg (an2 hi hn (λu h=>by cases h) e) _
def ang (inp:ze1) (vs:List RS) (n:Nat):List RS:=Go.Sy.tab (λj=>(ale (mb noU inp j).f (mb VI vs j)).1) n
theorem aoa {inp:ze1} {vs:List RS}: ∀{n:Nat},∀r∈ang inp vs n,uzR r=true
 |0,r,h=>by cases h
 |n+1,r,h=>by
  rcases za8.1 h with h|h
  ·exact aoa r h
  ·rw[zaj.1 h];exact gI _ _
theorem an3 {xs:List Int}: ∀{n:Nat},∀r∈vu xs n,uzR r=true
 |0,r,h=>by cases h
 |n+1,r,h=>by
  rcases za8.1 h with h|h
  ·exact an3 r h
  ·rw[zaj.1 h];exact aoD _
theorem anw (h:szB u=true):szB (nd u)=true:=by
 unfold szB at h ⊢;rw[za2] at h;show (uzR (rMk 1 1).1&&uzR u.o)=true;rw[alg,h.2];rfl
theorem aoI {x:Nd} (h:szN x=true):szN (am3 x)=true:=by
 unfold am3;cases x.op==1 with
 |false=>exact h
 |true=>
  unfold szN at h;rw[za2] at h;show (uzR (ale x.u.f x.v).1&&szB (nd x.u))=true;rw[gI,anw h.2];rfl
variable {us:ze1} {l:ze2}
theorem aox:rdQ p us l u=⟨p.id,us,l,u⟩:=by
 unfold rdQ;rw[show eU.list us.length (eU.get us)=us from El.list_get,show eN.list l.length (eN.get l)=l from El.list_get]
theorem aoy (h1:us.length<=1000000) (h2:l.length<=1000000) (k1: ∀v∈us,szB v=true) (k2: ∀x∈l,szN x=true) (k3:szB u=true):ndQ us l u=true:=als h1 h2 (El.good_get k1) (El.good_get k2) k3
theorem aoz {n:Nat} {ws:List RS} (h:ndQ us l u=true) (hn:ws.length=n) (hb:n<=1000000) (hw: ∀r∈ws,uzR r=true):evQ us l u n ws=true:=by
 subst hn;unfold evQ bW;rw[h,zae (za0 _),zae hb,El.good_get (E:=eR) hw];rfl
structure UnOK (p:Pr):Prop where
 v:VM p=true
 l1:1<=p.inp.length
 l2:p.inp.length<=3
 l3:1<=p.nod.length
 l4:p.nod.length<=14
 si: ∀u∈p.inp,szB u=true
 sn: ∀x∈p.nod,szN x=true
 so:szB p.out=true
 n8: ∀x∈p.nod,x.op≠8
 ml: ∀x∈p.nod,x.op=1->(ale x.u.f x.v).2=0
 fa: ∀u∈p.inp,u.f=rI\/u.f=anZ
theorem aoJ {a:Int×Int×Int} {k:Int} {xs:List I4}:UnOK (Bd a k xs true):=by
 have ml:=Sb (a:=a) (count:=k) (xs:=xs) (ex:=true);have ms:=Tn (a:=a) (count:=k) (xs:=xs) (ex:=true);unfold aci at ms;simp only[za2,zaf] at ms;exact⟨Sk,ml.1,ml.2.1,ml.2.2.1,ml.2.2.2,ms.1.1,ms.1.2,ms.2,aof,aou,aov⟩
section
variable {p:Pr} {vs:List RS} {Q:zdT}
theorem aob {f:Nat->RS} {n e:Nat} (h:e<n):mb VI (Go.Sy.tab f n) e=f e:=bR (qX f h)
theorem aoX (H:UnOK p) (hl:vs.length=p.inp.length) (hz: ∀r∈vs,uzR r=true) (hs: ∀u∈p.inp,u.s≠0) (hc: ∀x∈p.nod,anf x) (hm: ∀e,e<p.inp.length->(ale (mb noU p.inp e).f (mb VI vs e)).2=0) (hQ:Q (cB.enc true)):
 unE p vs (p.inp.map nd) (ang p.inp vs p.inp.length) (p.nod.map am3) Q:=by
 have l1:=H.l1;have l2:=H.l2;have l3:=H.l3;have l4:=H.l4;have wl:(ang p.inp vs p.inp.length).length=p.inp.length:=fJ _ _;have n1:ndQ p.inp p.nod p.out=true:=aoy (by omega) (by omega) H.si H.sn H.so
 have n2:ndQ (p.inp.map nd) (p.nod.map am3) (nd p.out)=true:=aoy (by rw[zaB];omega) (by rw[zaB];omega) (λv h=>by
  obtain⟨w,hw,rfl⟩:=zaz.1 h;exact anw (H.si w hw)) (λx h=>by
  obtain⟨y,hy,rfl⟩:=zaz.1 h
  exact aoI (H.sn y hy)) (anw H.so)
 have e1:rdQ p p.inp p.nod p.out=p:=aox;have e2:rdQ p (p.inp.map nd) (p.nod.map am3) (nd p.out)=am6 p:=aox;have e3:eR.list (p.inp.length:Int).toNat (eR.get vs)=vs:=by
  rw[show (p.inp.length:Int).toNat=vs.length by omega];exact El.list_get
 have e4:eR.list (ang p.inp vs p.inp.length).length (eR.get (ang p.inp vs p.inp.length))=ang p.inp vs p.inp.length:=El.list_get;unfold unE n9 uK;rw[e1,e2,e3,e4];refine ac (aoz n1 (by omega) (by omega) hz) λ_ _=>ac (aoz n2 rfl (by omega) aoa) λ_ _=>ac (by rw[n1,H.v];rfl) λ_ _=>ac (by rw[n2,anY H.v hs hc];rfl) λ_ _=>ah (λ_=>hQ) (λhb=> ?_);have ha:(bn p vs).2=0/\(bn (am6 p) (ang p.inp vs p.inp.length)).2=0:=by
  cases h:(bn p vs).2 !=0 with
  |true=>rw[h] at hb;cases hb
  |false=>rw[h] at hb;exact⟨by simpa using h,by simpa using hb⟩
 have hz1:uzR (bn p vs).1=true:=aow hz H.sn;have hso:=H.so;unfold szB at hso;rw[za2] at hso;refine ac (by rw[hso.1,hz1];rfl) ?_
 obtain⟨g1,g2⟩:=ao6 (p:=p) (ins:=vs) (ins':=ang p.inp vs p.inp.length) hs hc (λe he=>by
  unfold ang;rw[aob he]
  exact am2 (hm e he)) (zc8 rfl ha.1) (zc8 rfl ha.2)
 cases hH:(ale p.out.f (bn p vs).1).2 !=0 with
 |true=>exact hQ
 |false=>
  obtain⟨k1,k2⟩:=am2 (a:=p.out.f) (b:=(bn p vs).1) (by simpa using hH);rw[zds,show eqR (ale p.out.f (bn p vs).1).1 (bn (am6 p) (ang p.inp vs p.inp.length)).1=true from Wg.2 (wh k1 g1 (by rw[k2,g2]))];exact hQ
def aog (p:Pr) (z:F2):Prop:=0<=z.1/\z.1<=p.nod.length/\z.2=(p.nod.take z.1.toNat).map am3/\ ∀j:Nat,(j:Int)<z.1->anf (mb noN p.nod j)
def aoK (p:Pr) (vs:List RS) (x:U1):Prop:=0<=x.1/\x.1<=p.inp.length/\x.2.1=(p.inp.take x.1.toNat).map nd/\x.2.2=ang p.inp vs x.1.toNat/\ ∀j:Nat,(j:Int)<x.1->(mb noU p.inp j).s≠0
theorem anx {m:Nat} {R:Prop} (h:R):unK m R:=⟨rfl,rfl,rfl,rfl,rfl,h⟩
theorem aoY (H:UnOK p) (hl:vs.length=p.inp.length) (hz: ∀r∈vs,uzR r=true) (hs: ∀u∈p.inp,u.s≠0) (hm: ∀e,e<p.inp.length->(ale (mb noU p.inp e).f (mb VI vs e)).2=0) (hQ:Q (cB.enc true)):
 ao4 (aog p) p.nod.length p vs (p.inp.map nd) (ang p.inp vs p.inp.length) Q:=by
 have l4:=H.l4;refine⟨(0, []),⟨zat _,by show (0:Int)<=_;omega,rfl,λj hj=>by have hj:(j:Int)<0:=hj;omega⟩,⟨⟨rfl,anx ⟨rfl,trivial⟩⟩,trivial,⟨rfl,trivial⟩,rfl,trivial⟩, ?_⟩;rintro⟨i,l⟩ ⟨k0,k1,k2,k3⟩;dsimp only at k0 k1 k2 k3 ⊢;refine ah (λhb=> ?_) (λhb=> ?_)
 ·have hb:=zdw hb;have ll:l.length=i.toNat:=by rw[k2];simp;omega
  have hx:eN.nth p.nod (0+i.toNat)∈p.nod:=bw (by omega);have e1:(i+1).toNat=i.toNat+1:=by omega
  have nx: ∀y,am3 (eN.nth p.nod (0+i.toNat))=y->anf (eN.nth p.nod (0+i.toNat))->aog p (i+1,l++ [y]):=λy hy hc=>by
   refine⟨by show 0<=i+1;omega,by show i+1<=_;omega, ?_,λj hj=> ?_⟩
   ·show l++ [y]=(p.nod.take (i+1).toNat).map am3;rw[al1 (d:=noN) k0 hb,k2,<-hy];rfl
   ·have hj:(j:Int)<i+1:=hj;by_cases h:(j:Int)<i
    ·exact k3 j h
    ·have:j=0+i.toNat:=by omega
     rw[this];exact hc
  refine aY k0 hb (ah (λho=> ?_) (λho=> ?_))
  ·have ho:(eN.nth p.nod (0+i.toNat)).op=1:=by simpa using ho
   have hsz:=H.sn _ hx;unfold szN at hsz;rw[za2] at hsz;have hsu:=hsz.2;unfold szB at hsu;rw[za2] at hsu;have hml:=H.ml _ hx ho;refine ac (by rw[hsu.1,hsz.1];rfl) (ah (λhc=> ?_) (λhc=> ?_))
   ·rw[hml] at hc;cases hq:(eN.nth p.nod (0+i.toNat)).u.s !=0 with
    |false=>exact hQ
    |true=>rw[hq] at hc;simp at hc
   ·have hsn:(eN.nth p.nod (0+i.toNat)).u.s≠0:=by
     cases hq:(eN.nth p.nod (0+i.toNat)).u.s !=0 with
     |false=>rw[hq] at hc;cases hc
     |true=>simpa using hq
    have hcv:am3 (eN.nth p.nod (0+i.toNat))={eN.nth p.nod (0+i.toNat) with v:=(ale (eN.nth p.nod (0+i.toNat)).u.f (eN.nth p.nod (0+i.toNat)).v).1,u:=nd (eN.nth p.nod (0+i.toNat)).u}:=by
     unfold am3;rw[show ((eN.nth p.nod (0+i.toNat)).op==1)=true by simpa using ho];rfl
    exact xp (by omega) (ac (VP.2 (by omega)) ⟨(i+1,l++ [_]),nx _ hcv ⟨H.n8 _ hx,λ_=>⟨hsn,hml⟩⟩,by show (_:Nat)<_;dsimp only;omega,⟨⟨rfl,anx ⟨rfl,trivial⟩⟩,trivial,⟨by simp,trivial⟩,S7 rfl,trivial⟩⟩)
  ·have ho:(eN.nth p.nod (0+i.toNat)).op≠1:=by simpa using ho
   exact xp (by omega) (ac (VP.2 (by omega)) ⟨(i+1,l++ [_]),nx _ (aoW ho) ⟨H.n8 _ hx,λh=>absurd h ho⟩,by show (_:Nat)<_;dsimp only;omega,⟨⟨rfl,anx ⟨rfl,trivial⟩⟩,trivial,⟨by simp,trivial⟩,S7 rfl,trivial⟩⟩)
 ·have hb:=zdx hb;have e:l=p.nod.map am3:=by rw[k2,show i.toNat=p.nod.length by omega,List.take_length]
  subst e;refine aoX H hl hz hs (λx hx=> ?_) hm hQ;obtain⟨j,hj⟩:=zby hx;have hlt:=(zaV.1 hj).1;have:=k3 j (by omega);rwa[bR hj] at this
theorem aoZ (H:UnOK p) (hl:vs.length=p.inp.length) (hz: ∀r∈vs,uzR r=true) (hm: ∀e,e<p.inp.length->(ale (mb noU p.inp e).f (mb VI vs e)).2=0) (hQ:Q (cB.enc true)):
 ao5 (aoK p vs) (aog p) p.inp.length p.nod.length p vs Q:=by
 have l2:=H.l2;refine⟨(0, [], []),⟨zat _,by show (0:Int)<=_;omega,rfl,rfl,λj hj=>by have hj:(j:Int)<0:=hj;omega⟩,⟨⟨rfl,rfl,anx trivial⟩,trivial,⟨rfl,trivial⟩,rfl,rfl,trivial⟩, ?_⟩;rintro⟨i,us,ws⟩ ⟨k0,k1,k2,k3,k4⟩;dsimp only at k0 k1 k2 k3 k4 ⊢;refine ah (λhb=> ?_) (λhb=> ?_)
 ·have hb:=zdw hb;have lu:us.length=i.toNat:=by rw[k2];simp;omega
  have lw:ws.length=i.toNat:=by rw[k3];exact fJ _ _
  have hx:eU.nth p.inp (0+i.toNat)∈p.inp:=bw (by omega);have hv:eR.nth vs (0+i.toNat)∈vs:=bw (by omega);have hsz:=H.si _ hx;unfold szB at hsz;rw[za2] at hsz;have hml:(ale (eU.nth p.inp (0+i.toNat)).f (eR.nth vs (0+i.toNat))).2=0:=hm (0+i.toNat) (by omega);have e1:(i+1).toNat=i.toNat+1:=by omega
  refine aY k0 hb (ac (by rw[zdr k0,zdr (show i<((p.inp.length:Int).toNat:Int) by omega),zdr (show 0+i.toNat<vs.length by omega)];rfl) (ac (zdr (by omega)) (ac (by rw[hsz.1,hz _ hv];rfl) (ah (λhc=> ?_) (λhc=> ?_)))))
  ·rw[hml] at hc;cases hq:(eU.nth p.inp (0+i.toNat)).s !=0 with
   |false=>exact hQ
   |true=>rw[hq] at hc;simp at hc
  ·have hsn:(eU.nth p.inp (0+i.toNat)).s≠0:=by
    cases hq:(eU.nth p.inp (0+i.toNat)).s !=0 with
    |false=>rw[hq] at hc;cases hc
    |true=>simpa using hq
   refine fV (by omega) (LQ (by omega) (ac (VP.2 (by omega)) ⟨(i+1,us++ [nd (eU.nth p.inp (0+i.toNat))],ws++ [(ale (eU.nth p.inp (0+i.toNat)).f (eR.nth vs (0+i.toNat))).1]),⟨by show 0<=i+1;omega,by show i+1<=_;omega, ?_, ?_,λj hj=> ?_⟩,by show (_:Nat)<_;dsimp only;omega,
    ⟨⟨rfl,by simp,anx trivial⟩,trivial,⟨by simp,trivial⟩,Sc rfl,anN rfl,trivial⟩⟩))
   ·show us++ [_]=(p.inp.take (i+1).toNat).map nd;rw[al1 (d:=noU) k0 hb,k2];rfl
   ·show ws++ [_]=ang p.inp vs (i+1).toNat;rw[e1,k3,za7];rfl
   ·have hj:(j:Int)<i+1:=hj;by_cases h:(j:Int)<i
    ·exact k4 j h
    ·have:j=0+i.toNat:=by omega
     rw[this];exact hsn
 ·have hb:=zdx hb;have ei:i.toNat=p.inp.length:=by omega
  have e1:us=p.inp.map nd:=by rw[k2,ei,List.take_length]
  have e2:ws=ang p.inp vs p.inp.length:=by rw[k3,ei]
  subst e1 e2;refine aoY H hl hz (λu hu=> ?_) hm hQ;obtain⟨j,hj⟩:=zby hu;have hlt:=(zaV.1 hj).1;have:=k4 j (by omega);rwa[bR hj] at this
end
theorem aoh {a b c k:Int} {xs:List I4} {vs:List Int} {Q:zdT} (ha:cl a=true) (hb:cl b=true) (hc:cl c=true) (hk:cl k=true) (hx: ∀y∈xs,uz4 y=true) (hn:xs.length<=9223372036854775807) (hv: ∀y∈vs,cl y=true) (hQ:Q (cB.enc true)):
 unT (aoK (Bd (a,b,c) k xs true) (vu vs (Bd (a,b,c) k xs true).inp.length)) (aog (Bd (a,b,c) k xs true)) (Bd (a,b,c) k xs true).inp.length (Bd (a,b,c) k xs true).nod.length a b c k xs vs Q:=by
 have hl:e4.list xs.length (e4.get xs)=xs:=El.list_get;have hl':e1.list vs.length (e1.get vs)=vs:=El.list_get;have H:UnOK (Bd (a,b,c) k xs true):=aoJ;have l1:=H.l1;have l2:=H.l2;unfold unT n9 uK;rw[hl,hl'];refine λ_ _=>ac ?_ λ_ _=>ac ?_ λ_ _=> ?_
 ·rw[zae (za0 _),zdr hn,El.good_get (E:=e4) hx,ha,hb,hc,hk];rfl
 ·rw[zae (za0 _),El.good_get (E:=e1) hv,zdr (show (1:Int)<=((Bd (a,b,c) k xs true).inp.length:Int) by omega),zdr (show ((Bd (a,b,c) k xs true).inp.length:Int)<=1000000 by omega)];rfl
 ·rw[show (((Bd (a,b,c) k xs true).inp.length:Nat):Int).toNat=(Bd (a,b,c) k xs true).inp.length by omega];refine aoZ H (fJ _ _) an3 (λe he=> ?_) hQ;have hv:mb VI (vu vs (Bd (a,b,c) k xs true).inp.length) e=anL (mb 0 vs e):=aob he;rw[hv];exact apd _ (H.fa _ (bw he))
section
variable {H:Type} {enc:TypeId×Value->H} {P:Program} {w:World} {base:Nat}
variable {e:TypeId} {held:Bool}
theorem an4 {fuel:Nat} {a:Addr} {x:DataW H×List MemPlace} {spare:zdS} (he:QV P 9 e=some [.int .i64]) (hs:a.spot=none) {i:Nat}
 (h:(w.cells? base (a.add (i*1)) 1).bind (DataW.trod enc P w base spare held fuel e)=some x): ∃y:Int,cl y=true/\w.cell? ⟨a.block,a.off+i*1,none⟩=some (.int .i64 y):=by
 rw[Option.bind_eq_some_iff] at h;obtain⟨cs,hc,hx⟩:=h;obtain⟨_,hl,hget⟩:=World.cells?_some hc;have hk:=FB 9 he hx;have ad:(a.add (i*1)).add 0=⟨a.block,a.off+i*1,none⟩:=by
  obtain⟨b,f,s⟩:=a;obtain rfl:s=none:=hs;unfold Addr.add;split<;>split<;>simp_all
 obtain⟨_,_,rfl,⟨y0,rfl,b0⟩,h1⟩:=Rk hk;obtain rfl:=TB h1;refine⟨y0,u64 b0, ?_⟩;rw[<-ad,hget 0 (by decide)];rfl
theorem open_ints {r:Reach} {b0:Nat} {v:Value} {dd:DataW H} {ps:List MemPlace} {t:TypeId} (hu:P.underlying t=some (.slice e)) (he:P.cellsOf e=1/\QV P 9 e=some [.int .i64])
 (hval:Value.okWide P w r b0 t v) (hd:DataW.Trod enc P w base (λ_=>true) held t v dd ps): ∃(xs:List Int) (L:Go.Sy.Loc),v=(SV.slc 0 0 xs.length).conc (λ_=>L)/\(∀x∈xs,cl x=true)/\BlkOK (λ_=>L) 0 (e1.old xs) w/\xs.length<=maxLen:=by
 obtain⟨a0,len0,cap0,rfl⟩:=okWide_slice hu hval;obtain⟨fuel,hf⟩:=hd;rcases DataW.trod_slice hu hf with ⟨hs,_⟩|⟨a,len,cap,elems,rest,n,_,hs,_,_,hle,hcap,hlen,hget,hsp,_⟩
 ·simp only[Value.cells,zca,and_true,Value.slice.injEq] at hs;obtain⟨rfl,rfl,rfl⟩:=hs;refine⟨[],⟨0,0,1,0,true⟩,rfl,λx hx=>(by cases hx), ?_,zaA _⟩;exact⟨rfl,λh=>(by cases h),za0 _,λe he=>absurd he (zbn e),λj hj=>(by simp at hj),λh=>(by cases h),λe he=>absurd he (zbn e),λ_=>rfl,λh=>(by cases h)⟩
 ·simp only[Value.cells,zca,and_true,Value.slice.injEq] at hs;obtain⟨rfl,rfl,rfl⟩:=hs;have hb:a.spot=none/\a.block<w.heap.size:=by
   simp only[Value.okWide,hu] at hval;unfold Cell.okWide at hval;simp only[hu] at hval;unfold Cell.ok at hval;simp only[hu] at hval;obtain⟨_,_,_,hsp,row,cells,hsh,_⟩:=hval;refine⟨hsp, ?_⟩;unfold World.shape? at hsh;rcases zah a.block w.heap.size with h|h
   ·exact h
   ·rw[zcD h] at hsh;cases hsh
  obtain⟨hrl,hrest⟩:=hsp rfl;rw[he.1] at hget hrest;have each: ∀i,∃y:Int,i<cap0->cl y=true/\w.cell? ⟨a.block,a.off+i*1,none⟩=some (.int .i64 y):=λi=>by
   by_cases hi:i<cap0
   ·by_cases hi':i<len0
    ·have:=hget i hi';rw[zaa (by omega)] at this;obtain⟨y,h⟩:=an4 he.2 hb.1 this;exact⟨y,λ_=>h⟩
    ·have:=hrest (i - len0) (by omega);rw[show len0+(i - len0)=i by omega,zaa (by omega)] at this;obtain⟨y,h⟩:=an4 he.2 hb.1 this;exact⟨y,λ_=>h⟩
   ·exact⟨0,λh=>absurd h hi⟩
  obtain⟨g,hg⟩:=Classical.axiomOfChoice each;have hlx:(Go.Sy.tab g len0).length=len0:=fJ _ _;refine⟨Go.Sy.tab g len0,⟨a.block,a.off,1,cap0,false⟩, ?_,λy hy=> ?_, ?_,by omega⟩
  ·rw[jq rfl (.inr rfl),hlx];obtain⟨b,f,s⟩:=a;obtain rfl:s=none:=hb.1;simp[addr]
  ·obtain⟨i,hi⟩:=zby hy;have hlt:i<len0:=by have:=(zaV.1 hi).1;omega
   rw[qX _ hlt] at hi;simp only[za1] at hi;subst hi;exact(hg i (by omega)).1
  ·refine⟨rfl,λ_=>hb.2,by show (Go.Sy.tab g len0).length<=cap0;omega,λe he=>rfl,λj hj=> ?_,λh=>(by cases h),λe he o s ho=> ?_,λh=>(by cases h),λ_=>rfl⟩
   ·have hj:j<cap0*1:=hj;have:=(hg j (by omega)).2;show (w.cell? ⟨a.block,a.off+j,none⟩).isSome=true;rw[show a.off+j=a.off+j*1 by omega,this];rfl
   ·have he':e<len0:=by rw[<-hlx];exact he
    have e1':e1.get (Go.Sy.tab g len0) e= [.val (.int .i64 (g e))]:=by
     unfold El.get El.nth;rw[bR (qX g he')];rfl
    have ho':([.val (.int .i64 (g e))]:zdM)[o]? =some s:=by rw[<-e1'];exact ho
    cases o with
    |succ o=>simp at ho'
    |zero=>
     simp only[zbA,za1] at ho';subst ho';show w.cell? ⟨a.block,a.off+e*1+0,none⟩=_;rw[zaY,(hg e (by omega)).2];rfl
end
variable {β:Nat->Go.Sy.Loc} {L:Go.Sy.Loc} {w:World}
theorem aoA {i:Nat} {B:Blk} (h:BlkOK (λ_=>L) 0 B w) (hl:β i=L) (hc: ∀e,e<B.n->SV.idss (B.get e)= []):BlkOK β i B w:=
 wD (i1:=0) h (by rw[hl]) rfl (za0 _) id (λh=> .inl h) λe he=>⟨rfl,λo s hs=>⟨s,hs,SV.conc_congr s λj hj=>by
  have:j∈SV.idss (B.get e):=SV.mem_idss.2 ⟨s,zal hs,hj⟩
  rw[hc e he] at this;cases this⟩⟩
variable {Bs:zdW}
theorem aoL (h: ∀(i:Nat) (B:Blk),Bs[i]? =some B->BlkOK β i B w/\B.kd= .old/\ ∀e,e<B.n->SV.idss (B.get e)= []):BC w (λi=>Bs[i]?) β w:=by
 have no: ∀{i:Nat} {C:Blk},Bs[i]? =some C->C.kd= .old:=λ{i C} hC=>(h i C hC).2.1;refine⟨Pres.refl _,λid C hC _=>(h id C hC).1,λid C hC ho=> ?_,λid C hC _ hn=> ?_,λid id' C C' hC hC' ho _ _ _ _=> ?_,λid C e o s hC _ he hs=> ?_,⟨λid C hC hm=> ?_,λid id' C C' hC hC' hm=> ?_,λid C e s hC hm=> ?_,λid C hC hm=> ?_⟩⟩
 ·rw[no hC] at ho;cases ho
 ·refine⟨?_,rfl⟩;intro hm;have:=(h id C hC).1.lt hn;rcases hm with hm|hm
  ·exact absurd this (Nat.not_lt.2 hm)
  ·cases hm
 ·rw[no hC] at ho;cases ho
 ·intro i hi;have:i∈SV.idss (C.get e):=SV.mem_idss.2 ⟨s,zal hs,hi⟩;rw[(h id C hC).2.2 e he] at this;cases this
 all_goals rw[no hC] at hm;cases hm
def UL (L M:Go.Sy.Loc) (i:Nat):Go.Sy.Loc:=match i with
 |0=>L
 |_=>M
variable {M:Go.Sy.Loc} {n:Nat}
theorem aoM {a b c k:Int} :(al2 a b c k n).conc (UL L M)=(al2 a b c k n).conc (λ_=>L):=SV.conc_congr _ λi hi=>by
 have:i=0:=by simpa [al2,SV.ids,SV.idss] using hi
 subst this;rfl
theorem aoN:(SV.slc 1 0 n).conc (UL L M)=(SV.slc 0 0 n).conc (λ_=>M):=rfl
variable {W:World}
theorem ao7 {p:Addr} {g:List (FuncId×Ctr)} (hg:GEk g) {gm:zdZ} (hm:MEk p gm) (hW:GlobE p W) {ann:zdX} {F:FuncId} {args:zdM} (hbc:BC W (λi=>Bs[i]?) β W) (hl: ∀s∈args,∀i∈s.ids,i<Bs.length) (h:XC p g gm ann n F args Bs (Go.Sy.okK λr _ _ _=>r=cB.enc true)):
 Calls Tryz.prog F (SV.concs β args).toArray W λe w'=>e= .returned (.bool true)/\Below W.heap.size W w':=by
 unfold XC at h
 obtain⟨_,hc⟩:=sU (ac9 hg hm (GlobEB.of hW)) ann n F args (λi=>Bs[i]?) Bs.length [] _ β W h hbc (λi hi=>zad hi) (λs hs i hi=>by
  show Bs[i]? ≠none
  rw[zaa (hl s hs i hi)];simp)
 refine Calls.mono hc ?_;rintro e w' ⟨β',s,bl',nx',wl',he,hk,hbc,_⟩;cases s with
 |pan v=>exact hk.elim
 |ok s=>
 obtain rfl:e=_:=he;obtain rfl:s=_:=hk;exact⟨rfl,hbc.below.below⟩
theorem ane (c:Ca9) (vs:List Int) (h:c.ok=true) (hB:BlkOK (λ_=>L) 0 (e4.old c.x) W) (hl:c.x.length<=maxLen) (hv: ∀x∈vs,cl x=true) (hC:BlkOK (λ_=>M) 0 (e1.old vs) W) (_:vs.length<=maxLen) (_:World) (hg: ∃p,GlobE p W):
 Calls Tryz.prog 4 #[(al2 c.a c.b c.c c.k c.x.length).conc (λ_=>L),(SV.slc 0 0 vs.length).conc (λ_=>M)] W λe w'=>e= .returned (.bool true)/\Below W.heap.size W w':=by
 obtain⟨p,hg⟩:=hg;unfold Ca9.ok at h;simp only[za2,zaf] at h;obtain⟨⟨⟨⟨a0,a1⟩,a2⟩,a3⟩,ax⟩:=h;have hbc:BC W (λi=> [e4.old c.x,e1.old vs][i]?) (UL L M) W:=aoL λi B hB'=>by
  match i,hB' with
  |0,hB'=>obtain rfl:=zbk hB';exact⟨aoA hB rfl λe _=>e4.ids _,rfl,λe _=>e4.ids _⟩
  |1,hB'=>obtain rfl:=zbk hB';exact⟨aoA hC rfl λe _=>e1.ids _,rfl,λe _=>e1.ids _⟩
 have ea:(SV.concs (UL L M) [al2 c.a c.b c.c c.k c.x.length, .slc 1 0 vs.length]).toArray= #[(al2 c.a c.b c.c c.k c.x.length).conc (λ_=>L),(SV.slc 0 0 vs.length).conc (λ_=>M)]:=by
  simp only[SV.concs];rw[aoM,aoN]
 rw[<-ea]
 exact ao7 ao1 aoE hg (ann:=aon (aoK (Bd (c.a,c.b,c.c) c.k c.x true) (vu vs (Bd (c.a,c.b,c.c) c.k c.x true).inp.length)) (aog (Bd (c.a,c.b,c.c) c.k c.x true)) (Bd (c.a,c.b,c.c) c.k c.x true).inp.length (Bd (c.a,c.b,c.c) c.k c.x true).nod.length) (n:=8) hbc (λs hs i hi=>by
  rcases zai.1 hs with rfl|hs
  ·have:i=0:=by simpa [al2,SV.ids,SV.idss] using hi
   subst this;exact Nat.zero_lt_succ _
  ·rw[zaj.1 hs] at hi;have:i=1:=by simpa [SV.ids] using hi
   subst this;exact zcz 1) (by
  have e:=aoU p (aoK (Bd (c.a,c.b,c.c) c.k c.x true) (vu vs (Bd (c.a,c.b,c.c) c.k c.x true).inp.length)) (aog (Bd (c.a,c.b,c.c) c.k c.x true)) (Bd (c.a,c.b,c.c) c.k c.x true).inp.length (Bd (c.a,c.b,c.c) c.k c.x true).nod.length c.a c.b c.c c.k c.x vs (λr=>r=cB.enc true);unfold aoP at e;rw[e]
  exact aoh a0 a1 a2 a3 ax (zac hl (by decide)) hv rfl)
end Go.Proofs.YtdbnankjpnpojaaGreatDoor
