import Derived.Test.YtdjfpjmijhjmpaaGreatDoorZf
import Derived.ProofKit
import Derived.OpenShut
import Derived.Carry
set_option linter.unusedVariables false
set_option linter.unusedSimpArgs false
set_option maxRecDepth 100000
namespace Go.Proofs.YtdjfpjmijhjmpaaGreatDoor
open Go.Proofs.Tryz
open Go Go.RowKit Go.Sy Yk
open Go.ChangeShapes Go.WideShapes Go.ChangeAt
theorem aGu:prog.globalNamed "yardstick/enclosure.errFails" =some 5:=by kernel_rfl
theorem aGv:prog.globalNamed "yardstick/affine.errFails" =some 4:=by kernel_rfl
theorem aGw:prog.globalNamed "yardstick/plan.errFails" =some 2:=by kernel_rfl
theorem aGz:prog.globalNamed "yardstick/yardstickref11.Takes" =some 0:=by kernel_rfl
theorem aGA:prog.globalNamed "yardstick/yardstickref11.Puts" =some 1:=by kernel_rfl
theorem aGT:prog.globalNamed "yardstick/yardstickref11.names" =some 3:=by kernel_rfl
theorem aGL:(Rows.laid_yardstick_yardstickref11_Takes:DataW Unit)=Lib.tabData .i64 [0,0,0,2,2,2,2,1,1,0]:=by kernel_rfl
theorem aGM:(Rows.laid_yardstick_yardstickref11_Puts:DataW Unit)=Lib.tabData .i64 [1,1,1,2,1,1,1,1,1,0]:=by kernel_rfl
def aFW:List (DataW Unit):=(List.range 10).map λi=> .lit (.string (eo i).data.toList)
theorem aGN:(Rows.laid_yardstick_yardstickref11_names:DataW Unit)= .slice aFW []:=by kernel_rfl
variable {W:World} {n:String} {g:Nat} {r:List (String×DataW Unit)}
theorem aFX {text:List UInt8} (N:laidMet prog ((n, .iface "*errors.errorString" (.ptr (.agg [.lit (.string text)])))::r) W) (hg:prog.globalNamed n=some g) (Y:(prog.globals[g]?).map (·.type)=some 128): ∃a,W.cell? ⟨g,0,none⟩=some (evE a):=by
 obtain⟨J,s0,H,_,_,_⟩:=laid_sentinel (g:=g) (ti:=128) (tp:=402) (te:=404) (ts:=9) N hg Y underlying128 JV underlying402 underlying404 rfl rfl underlying9 (by kernel_rfl) (by kernel_rfl);have c0:=World.var?_cell hg H 0;exact⟨J,by unfold evE;simpa using c0⟩
theorem aGx {P:Program} {ds:List (DataW Unit)} {t e:TypeId} (hL:laidMet P ((n, .slice ds [])::r) W) (hg:P.globalNamed n=some g) (y0:(P.globals[g]?).map (·.type)=some t) (hu:P.underlying t=some (.slice e)) (he:P.underlying e=some .string) (hc:P.cellsOf e=1) (hp:0<ds.length):
 ∃k o cap,W.cell? ⟨g,0,none⟩=some (.slice (some ⟨k,o,none⟩) ds.length cap)/\ds.length<=cap/\(∀j,j<cap->(W.cell? ⟨k,o+j,none⟩).isSome=true)/\ ∀i,i<ds.length-> ∃s:zdH,W.cell? ⟨k,o+i,none⟩=some (.string s)/\ds[i]? =some (.lit (.string s.data.toList)):=by
 obtain⟨ps,⟨g',t',cs,C0,p,q,q0,x0,i0,hd,_,e0⟩,_,v0⟩:=hL;obtain rfl:=zbk (hg.symm.trans q0);obtain rfl:=zbk (y0.symm.trans x0);subst e0;obtain⟨cs⟩:=cs;dsimp only at hd;rcases DataW.trod_slice hu hd with ⟨_,hx⟩|⟨a,len,cap,j0,rest,m,_,n0,hx,_,hl,_,g0,o0,w0,_⟩
 ·simp at hx
 ·simp only[zag,DataW.slice.injEq] at hx;obtain⟨⟨Y,J⟩,H0⟩:=hx;obtain⟨u0,I0⟩:=w0 rfl;have r0:rest= []:=by
   cases rest with
   |nil=>rfl
   |cons x l=>simp at J
  subst r0;have E0:cap=len:=by simp at u0;omega
  have el:ds.length=len:=by rw[Y,zaB,g0]
  have H: ∀i,i<len-> ∃s:zdH,W.cell? (a.add i)=some (.string s)/\ds[i]? =some (.lit (.string s.data.toList)):=λi hi=>by
   have hE:=o0 i hi;rw[hc,zc0,zaa (by omega)] at hE;rw[Option.bind_eq_some_iff] at hE;obtain⟨c1,l0,B0⟩:=hE;obtain⟨s,rfl,z0,_⟩:=DataW.trod_string he B0;obtain⟨_,_,a0⟩:=World.cells?_some l0;have h0:=a0 0 (by decide);rw[show (a.add i).add 0=a.add i by simp[Addr.add]] at h0;refine⟨s,by simpa using h0, ?_⟩;rw[Y,zaL,zaa (by omega),z0];rfl
  have N:a.spot=none:=by
   obtain⟨s,h1,_⟩:=H 0 (by omega);unfold World.cell? at h1;have hb:(a.add 0).spot=a.spot:=rfl;split at h1
   ·rw[hb] at h1;cases hs:a.spot with
    |none=>rfl
    |some v=>rw[hs] at h1;simp at h1
   ·cases h1
  obtain⟨b,o,sp⟩:=a;obtain rfl:sp=none:=N;have c0:=World.var?_cell hg i0 0;rw[n0] at c0;refine⟨b,o,cap,by rw[el];simpa using c0,by omega,λj hj=> ?_,λi hi=> ?_⟩
  ·obtain⟨s,h1,_⟩:=H j (by omega);rw[show (⟨b,o,none⟩:Addr).add j=⟨b,o+j,none⟩ by simp[Addr.add]] at h1;rw[h1];rfl
  ·obtain⟨s,h1,h2⟩:=H i (by omega);rw[show (⟨b,o,none⟩:Addr).add i=⟨b,o+i,none⟩ by simp[Addr.add]] at h1;exact⟨s,h1,h2⟩
variable {i:Nat}
theorem aGd (hi:i<10):([0,0,0,2,2,2,2,1,1,0]:List Int).getD i 0=gi i:=by
 revert i;decide
theorem aGe (hi:i<10):([1,1,1,2,1,1,1,1,1,0]:List Int).getD i 0=lj i:=by
 revert i;decide
theorem aGf (h:W.ShapedOpen prog) (H:laidMetH prog oR W): ∃d,GlobQ d W:=by
 rw[MakeChecks.laidMetH_plain _ _ _ (by kernel_rfl)] at H;have h2:=laidMet.tail (laidMet.tail H);have h4:=laidMet.tail (laidMet.tail h2);have h5:=laidMet.tail h4;have h6:=laidMet.tail h5;have h7:=laidMet.tail h6;have J:=aGc h h2 h7;have h9:=laidMet.tail (laidMet.tail h7);obtain⟨e,N⟩:=aFX h9 aGu (by kernel_rfl);obtain⟨f,Y⟩:=aFX (laidMet.tail h9) aGv (by kernel_rfl);obtain⟨p,hp⟩:=aFX (laidMet.tail (laidMet.tail h9)) aGw (by kernel_rfl);have tk:=Lib.tabIs_of_head aGz (by kernel_rfl) underlying82 underlying3 (by kernel_rfl) (by kernel_rfl) (aGL▸h4);have pt:=Lib.tabIs_of_head aGA (by kernel_rfl) underlying82 underlying3 (by kernel_rfl) (by kernel_rfl) (aGM▸h5);obtain⟨k,o,cap,n1,n2,n3,n4⟩:=aGx (aGN▸h6) aGT (by kernel_rfl) underlying30 underlying9 (by kernel_rfl) (by decide);refine⟨⟨e,f,p⟩,⟨⟨J,N⟩,Y,hp⟩,λi hi=> ?_,λi hi=> ?_,k,o,cap,n1,n2,n3,λi hi=> ?_⟩
 ·rw[<-aGd hi];exact tk.cell aGz i hi
 ·rw[<-aGe hi];exact pt.cell aGA i hi
 ·obtain⟨s,h1,h2⟩:=n4 i hi;rw[h1];have h3:aFW[i]? =some (.lit (.string (eo i).data.toList)):=by
   unfold aFW;rw[zaL,List.getElem?_range hi];rfl
  rw[h3] at h2;simp only[za1,DataW.lit.injEq,Lit.string.injEq] at h2;rw[gT h2]
end Go.Proofs.YtdjfpjmijhjmpaaGreatDoor
namespace Yk
open Go.Proofs.YtdjfpjmijhjmpaaGreatDoor
open Go Go.RowKit Go.ChangeShapes Go.WideShapes
section
variable {H:Type} {enc:TypeId×Value->H} {P:Program} {w:World} {base b0:Nat} {spare:zdR} {held:Bool} {r:Reach} {v:Value} {d:DataW H} {ps:List MemPlace}
theorem ki {z:Int} (h:(Lit.int .i64 z).wf=true): -9223372036854775808<=z/\z<=9223372036854775807:=bounds_i64 h
end
theorem aFQ {H:Type} {enc:TypeId×Value->H} {P:Program} (hl:laidOutB P=true) {W W':World} (hb:Below W.heap.size W W'): ∀(ts:List TypeId) (vs:zdL) (J:List (DataW H)) (p:List MemPlace),
 (∀t∈ts,P.readableRec t=true/\t<P.types.size)->(∀x∈p,x.block<W.heap.size)->DataW.TrodAll enc P W 0 (λ_=>true) true ts vs J p->DataW.TrodAll enc P W' 0 (λb=>decide (b<W.heap.size)) true ts vs J p
 | [], [], [],_,_,_,h=>h
 |t::ts,v::vs,d::J,_,N,hp,h=>by
  obtain⟨p,q,h1,h2,rfl⟩:=h;exact⟨p,q,Below.trod hl (N t (by simp)).1 (N t (by simp)).2 h1 hb (λx Y=>hp x (by simp[Y])),aFQ hl hb ts vs J q (λt ht=>N t (by simp[ht])) (λx Y=>hp x (by simp[Y])) h2,rfl⟩
 | [], [],_::_,_,_,_,h=>h.elim
 | [],_::_,_,_,_,_,h=>h.elim
 |_::_, [],_,_,_,_,h=>h.elim
 |_::_,_::_, [],_,_,_,h=>h.elim
inductive Leaf where
 |int (k:IntKind)
 |bool
 |str
def Leaf.ok:Leaf->Value->Prop
 | .int k,v=> ∃z,v= .int k z/\k.min<=z/\z<=k.max
 | .bool,v=> ∃b,v= .bool b
 | .str,v=> ∃s:zdH,v= .string s/\s.size<=maxLen
def okL:List Leaf->List Value->Prop
 | [], []=>True
 |l::J,v::vs=>l.ok v/\okL J vs
 |_,_=>False
theorem arC: ∀{ls:List Leaf} {vs:zdL},okL ls vs->vs.length=ls.length
 | [], [],_=>rfl
 |_::_,_::_,h=>by simp[arC h.2]
 | [],_::_,h=>h.elim
 |_::_, [],h=>h.elim
theorem Q9: ∀{a b:List Leaf} {u v:zdL},okL a u->okL b v->okL (a++b) (u++v)
 | [],_, [],_,_,h=>h
 |_::_,_,_::_,_,h,k=>⟨h.1,Q9 h.2 k⟩
 | [],_,_::_,_,h,_=>h.elim
 |_::_,_, [],_,h,_=>h.elim
def Ri (P:Program) (g:TypeId->Option (List Leaf)):List Field->Nat->Option (List Leaf)
 | [],_=>some []
 |f::fs,off=>match g f.type with
  |some l=>if P.cellsOf f.type=l.length/\f.offset=off then(match Ri P g fs (off+l.length) with
   |some r=>some (l++r)
   |none=>none) else none
  |none=>none
def QV (P:Program):Nat->TypeId->Option (List Leaf)
 |0,_=>none
 |d+1,t=>match P.underlying t with
  |some .bool=>some [.bool]
  |some (.int k)=>some [.int k]
  |some .string=>some [.str]
  |some (.array n e)=>match QV P d e with
   |some l=>if P.cellsOf e=l.length/\P.cellsOf t=n*l.length then some (List.replicate n l).flatten else none
   |none=>none
  |some (.struct fs)=>match Ri P (QV P d) fs.toList 0 with
   |some l=>if P.cellsOf t=l.length then some l else none
   |none=>none
  |_=>none
section
variable {H:Type} {enc:TypeId×Value->H} {P:Program} {w:World} {base:Nat} {spare:zdR} {held:Bool}
theorem Sx {l:List Leaf}: ∀(n:Nat) (cs:zdL),cs.length=n*l.length->(∀i,i<n->okL l ((cs.drop (i*l.length)).take l.length))->okL (List.replicate n l).flatten cs
 |0,cs,J,_=>by
  have:cs= []:=zau (by omega);subst this;trivial
 |n+1,cs,J,h=>by
  rw[zcf,List.flatten_cons,<-zdn l.length cs];refine Q9 (by simpa using h 0 (by omega)) (Sx n _ (by rw[zbR,J,zaG];omega) λi hi=> ?_);have:=h (i+1) (by omega);rw[List.drop_drop];rwa[zaG,Nat.one_mul,zb3] at this
theorem Rj {g:TypeId->Option (List Leaf)} (hg: ∀{fuel:Nat} {t:TypeId} {cs:zdL} {x:DataW H×List MemPlace} {l:List Leaf},g t=some l->DataW.trod enc P w base spare held fuel t cs=some x->okL l cs):
 ∀{fs:List Field} {off:Nat} {cs:zdL} {l:List Leaf},Ri P g fs off=some l->off+l.length<=cs.length->
 (∀f∈fs,∃fuel x,DataW.trod enc P w base spare held fuel f.type ((cs.drop f.offset).take (P.cellsOf f.type))=some x)->okL l ((cs.drop off).take l.length)
 | [],off,cs,l,h,_,_=>by simp[Ri] at h;subst h;simp[okL]
 |f::fs,off,cs,l,h,hl,N=>by
  rw[Ri] at h;split at h
  ·rename_i a Y;split at h
   ·rename_i J;split at h
    ·rename_i r hr;cases h;simp only[za3] at hl ⊢;obtain⟨fuel,x,h1⟩:=N f (by simp);rw[J.1,J.2] at h1;have h2:=Rj hg hr (cs:=cs) (by omega) (λg hg=>N g (zan _ hg));rw[List.take_add,List.drop_drop];exact Q9 (hg Y h1) h2
    ·cases h
   ·cases h
  ·cases h
theorem FB: ∀(d:Nat) {fuel:Nat} {t:TypeId} {cs:zdL} {x:DataW H×List MemPlace} {l:List Leaf},QV P d t=some l->DataW.trod enc P w base spare held fuel t cs=some x->okL l cs
 |0,_,_,_,_,_,h,_=>by simp[QV] at h
 |d+1,fuel,t,cs,x,l,h,Y=>by
  rw[QV] at h;split at h
  ·rename_i N;obtain⟨b,rfl,_⟩:=DataW.trod_bool N Y;cases h;exact⟨⟨b,rfl⟩,trivial⟩
  ·rename_i k N;obtain⟨z,rfl,_,hw⟩:=DataW.trod_int N Y;cases h;simp only[Lit.wf,za2,zdu] at hw;exact⟨⟨z,rfl,hw⟩,trivial⟩
  ·rename_i N;obtain⟨s,rfl,_,hs⟩:=DataW.trod_string N Y;cases h;exact⟨⟨s,rfl,hs⟩,trivial⟩
  ·rename_i n e N;split at h
   ·rename_i le a0;split at h
    ·rename_i hc;cases h;obtain⟨xs,m,_,_,hl,hn,J⟩:=DataW.trod_array N Y;rw[hc.2] at hl;rw[hc.1] at J;refine Sx n cs hl λi hi=> ?_;have:=J i hi;rw[zaa (by omega)] at this;exact FB d a0 this
    ·cases h
   ·cases h
  ·rename_i fs N;split at h
   ·rename_i lf e0;split at h
    ·rename_i hc;cases h;obtain⟨xs,m,_,_,hl,hn,J⟩:=DataW.trod_struct N Y;rw[hc] at hl
     have:=Rj (g:=QV P d) (λh1 h2=>FB d h1 h2) (fs:=fs.toList) (off:=0) (cs:=cs) e0 (by omega) (λf hf=>by
      obtain⟨i,hi,e⟩:=zbS hf;have h1:=J i f (by rw[<-Array.getElem?_toList];rw[zaa hi,e]);rw[zaa (by simp at hi;omega)] at h1
      exact⟨_,_,h1⟩)
     rwa[zaZ,zaI (by omega)] at this
    ·cases h
   ·cases h
  ·cases h
variable {r:Reach} {b0:Nat} {v:Value} {ps:List MemPlace} {t:TypeId}
theorem aGg {dd:DataW H} (Y:P.underlying t=some .string) (J:Value.okWide P w r b0 t v)
 (hd:DataW.Trod enc P w base spare held t v dd ps): ∃s:zdH,v= .string s/\s.size<=maxLen:=by
 obtain⟨s,rfl⟩:=okWide_string Y J;obtain⟨N,hf⟩:=hd;obtain⟨s',h1,_,h2⟩:=DataW.trod_string Y hf;simp[Value.cells] at h1;subst h1;exact⟨s,rfl,h2⟩
theorem aF7 {dd:DataW H} {k:IntKind} (ht:P.underlying t=some (.int k)) (J:Value.okWide P w r b0 t v)
 (Y:DataW.Trod enc P w base spare held t v dd ps): ∃z:Int,v= .int k z/\k.min<=z/\z<=k.max:=by
 obtain⟨x,rfl,_,_,N⟩:=open_int ht J Y;simp only[Lit.wf,za2,zdu] at N;exact⟨x,rfl,N⟩
end
end Yk
namespace Yk
open Go.Proofs.YtdjfpjmijhjmpaaGreatDoor
open Go Go.RowKit Go.Sy Go.ChangeShapes Go.WideShapes
section
variable {H:Type} {enc:TypeId×Value->H} {P:Program} {w:World} {base:Nat}
variable {α:Type} {e:TypeId} {held:Bool}
theorem ar7 {E:El α} {ok:α->Bool} {ls:List Leaf} (dec: ∀vs,okL ls vs-> ∃y:α,ok y=true/\vs=SV.concs oj (E.sv y)) {fuel:Nat} {a:Addr} {x:DataW H×List MemPlace} {spare:zdR} {i:Nat} (he:QV P 9 e=some ls) (hs:a.spot=none)
 (h:(w.cells? base (a.add (i*E.sz)) E.sz).bind (DataW.trod enc P w base spare held fuel e)=some x): ∃y:α,ok y=true/\ ∀o z,(E.sv y)[o]? =some z->w.cell? ⟨a.block,a.off+i*E.sz+o,none⟩=some (z.conc oj):=by
 rw[Option.bind_eq_some_iff] at h;obtain⟨cs,Y,hx⟩:=h;obtain⟨_,hl,J⟩:=World.cells?_some Y;obtain⟨y,hy,rfl⟩:=dec cs (FB 9 he hx);refine⟨y,hy,λo z N=> ?_⟩;have ho:o<E.sz:=by
  have:=(zaV.1 N).1;rw[E.len] at this;exact this
 have ad:(a.add (i*E.sz)).add o=⟨a.block,a.off+i*E.sz+o,none⟩:=by
  obtain⟨b,f,s⟩:=a;obtain rfl:s=none:=hs;unfold Addr.add;split<;>split<;>simp_all<;>omega
 rw[<-ad,J o ho,SV.concs_eq,zaL,N];rfl
theorem apG {E:El α} {ok:α->Bool} {r:Reach} {b0:Nat} {v:Value} {dd:DataW H} {ps:List MemPlace} {t:TypeId} (hu:P.underlying t=some (.slice e)) (hs:P.cellsOf e=E.sz)
 (one: ∀{fuel:Nat} {x:DataW H×List MemPlace} {a:Addr} {spare:zdR} {held:Bool} {i:Nat},a.spot=none->(w.cells? base (a.add (i*E.sz)) E.sz).bind (DataW.trod enc P w base spare held fuel e)=some x-> ∃y:α,ok y=true/\ ∀o z,(E.sv y)[o]? =some z->w.cell? ⟨a.block,a.off+i*E.sz+o,none⟩=some (z.conc oj))
 (Y:Value.okWide P w r b0 t v) (hd:DataW.Trod enc P w base (λ_=>true) held t v dd ps): ∃(xs:List α) (L:Go.Sy.Loc),v=(SV.slc 0 0 xs.length).conc (λ_=>L)/\(∀x∈xs,ok x=true)/\BlkOK (λ_=>L) 0 (E.old xs) w/\xs.length<=maxLen:=by
 obtain⟨a0,J,N,rfl⟩:=okWide_slice hu Y;obtain⟨fuel,hf⟩:=hd;rcases DataW.trod_slice hu hf with ⟨hs,_⟩|⟨a,len,cap,u0,rest,n,_,q0,_,_,B0,y0,z0,g0,j0,_⟩
 ·simp only[Value.cells,zcb,and_true,Value.slice.injEq] at hs;obtain⟨rfl,rfl,rfl⟩:=hs;refine⟨[],⟨0,0,E.sz,0,true⟩,rfl,λx hx=>(by cases hx), ?_,zaA _⟩;exact⟨rfl,λh=>(by cases h),za0 _,λe he=>absurd he (zbn e),λj hj=>(by simp at hj),λh=>(by cases h),λe he=>absurd he (zbn e),λ_=>rfl,λh=>(by cases h)⟩
 ·simp only[Value.cells,zcb,and_true,Value.slice.injEq] at q0;obtain⟨rfl,rfl,rfl⟩:=q0;have hb:a.spot=none/\a.block<w.heap.size:=by
   simp only[Value.okWide,hu] at Y;unfold Cell.okWide at Y;simp only[hu] at Y;unfold Cell.ok at Y;simp only[hu] at Y;obtain⟨_,_,_,j0,row,cells,i0,_⟩:=Y;refine⟨j0, ?_⟩;unfold World.shape? at i0;rcases zah a.block w.heap.size with h|h
   ·exact h
   ·rw[zcD h] at i0;cases i0
  obtain⟨C0,e0⟩:=j0 rfl;rw[hs] at g0 e0;have l0: ∀i,∃y:α,i<N->ok y=true/\ ∀o z,(E.sv y)[o]? =some z->w.cell? ⟨a.block,a.off+i*E.sz+o,none⟩=some (z.conc oj):=λi=>by
   by_cases hi:i<N
   ·by_cases w0:i<J
    ·have:=g0 i w0;rw[zaa (by omega)] at this;obtain⟨y,h⟩:=one hb.1 this;exact⟨y,λ_=>h⟩
    ·have:=e0 (i - J) (by omega);rw[show J+(i - J)=i by omega,zaa (by omega)] at this;obtain⟨y,h⟩:=one hb.1 this;exact⟨y,λ_=>h⟩
   ·exact⟨E.d,λh=>absurd h hi⟩
  obtain⟨g,hg⟩:=Classical.axiomOfChoice l0;have n0:(Go.Sy.tab g J).length=J:=fJ _ _;refine⟨Go.Sy.tab g J,⟨a.block,a.off,E.sz,N,false⟩, ?_,λy hy=> ?_, ?_,by omega⟩
  ·rw[jq rfl (.inr rfl),n0];obtain⟨b,f,s⟩:=a;obtain rfl:s=none:=hb.1;simp[addr]
  ·obtain⟨i,hi⟩:=zbz hy;have x0:i<J:=by have:=(zaV.1 hi).1;omega
   rw[qX _ x0] at hi;simp only[za1] at hi;subst hi;exact(hg i (by omega)).1
  ·refine⟨rfl,λ_=>hb.2,by show (Go.Sy.tab g J).length<=N;omega,λe he=>E.len _,λj hj=> ?_,λh=>(by cases h),λe he o s ho=> ?_,λh=>(by cases h),λ_=>rfl⟩
   ·have hj:j<N*E.sz:=hj;have hp:0<E.sz:=by
     rcases zbL E.sz with h|h
     ·rw[h,Nat.mul_zero] at hj;omega
     ·exact h
    have hq:j / E.sz<N:=Nat.div_lt_of_lt_mul (by rw[zay];exact hj);have hm:j%E.sz<(E.sv (g (j / E.sz))).length:=by rw[E.len];exact zar _ hp
    have:=(hg (j / E.sz) hq).2 (j%E.sz) _ (zaa hm);rw[zbr,Nat.div_add_mod'] at this;show (w.cell? ⟨a.block,a.off+j,none⟩).isSome=true;rw[this];rfl
   ·have v0:e<J:=by rw[<-n0];exact he
    have r0:E.get (Go.Sy.tab g J) e=E.sv (g e):=by
     unfold El.get El.nth;rw[bR (qX g v0)]
    have o0:(E.sv (g e))[o]? =some s:=by rw[<-r0];exact ho
    show w.cell? ⟨a.block,a.off+e*E.sz+o,none⟩=_
    rw[(hg e (by omega)).2 o s o0,SV.conc_congr s (β:=oj) (β':=λ_=>(⟨a.block,a.off,E.sz,N,false⟩:Go.Sy.Loc)) (λi h=>by
     have:i∈SV.idss (E.sv (g e)):=SV.mem_idss.2 ⟨s,zal o0,h⟩
     rw[E.ids] at this;cases this)]
end
end Yk
namespace Go.Proofs.YtdjfpjmijhjmpaaGreatDoor
open Go.Proofs.Tryz
open Go Go.RowKit Go.Sy Yk Go.ChangeShapes Go.WideShapes
theorem aCP: ∀vs,okL [.int .i64, .int .i64] vs-> ∃y:Int×Int,(cl y.1&&cl y.2)=true/\vs=SV.concs oj (e2.sv y):=λvs h=>by
 have J:=arC h
 match vs,J,h with
 | [_,_],_,⟨⟨a,rfl,b0⟩,⟨b,rfl,H⟩,_⟩=>exact⟨(a,b),by dsimp only;rw[show cl a=true from Wl.2 b0,show cl b=true from Wl.2 H];rfl,rfl⟩
theorem aEC {H:Type} {enc:TypeId×Value->H} {P:Program} {w:World} {base:Nat} {r:Reach} {b0:Nat} {v:Value} {dd:DataW H} {ps:List MemPlace} {held:Bool} {t e:TypeId} (hu:P.underlying t=some (.slice e)) (N:P.cellsOf e=2/\QV P 9 e=some [.int .i64, .int .i64])
 (J:Value.okWide P w r b0 t v) (Y:DataW.Trod enc P w base (λ_=>true) held t v dd ps): ∃(xs:List (Int×Int)) (L:Go.Sy.Loc),v=(SV.slc 0 0 xs.length).conc (λ_=>L)/\(∀x∈xs,(cl x.1&&cl x.2)=true)/\BlkOK (λ_=>L) 0 (e2.old xs) w/\xs.length<=maxLen:=
 apG (E:=e2) hu N.1 (λhs h=>ar7 aCP N.2 hs h) J Y
variable {d:Ad3} {W:World}
theorem aFh {g:List (FuncId×Ctr)} (hg:GQk g) {gm:zdX} (hm:MPk d gm) (J:GlobQ d W) {ann:zdW} {n:Nat} {F:FuncId} {args:zdK} {Bs:zdV} {βB:Nat->Go.Sy.Loc} (hB: ∀(i:Nat) (B:Blk),Bs[i]? =some B->BlkOK βB i B W/\B.kd= .old/\ ∀e,e<B.n->SV.idss (B.get e)= [])
 (hl: ∀s∈args,∀i∈s.ids,∃j,i=14+1+j/\j<Bs.length) (h:aDp d g gm ann n F args Bs λr=>r=cB.enc true):
 ∃β:Nat->Go.Sy.Loc,(∀i,β (14+1+i)=βB i)/\Calls prog F (SV.concs β args).toArray W λe w'=>e= .returned (.bool true)/\Below W.heap.size W w':=by
 obtain⟨β,H,hβ⟩:=aBk J.2 hB;refine⟨β,hβ, ?_⟩;unfold aDp at h
 obtain⟨_,Y⟩:=sU (aE4 hg hm (GlobQB.of J)) ann n F args (blG Bs) (14+1+Bs.length) [] _ β W h H (λi hi=>aCw hi) (λs hs i hi=>by
  obtain⟨j,rfl,hj⟩:=hl s hs i hi;unfold blG;simp only[bS,aB];rw[zdt (by omega),zdt (by omega),zdt (by omega),zdt (by omega),zdt (by omega)];simp only[zdr]
  rw[show 14+1+j - (14+1)=j by omega,zaa hj];simp)
 refine Calls.mono Y ?_;rintro e w' ⟨β',s,bl',a0,e0,he,N,H,_⟩;cases s with
 |pan v=>exact N.elim
 |ok s=>
 obtain rfl:e=_:=he;obtain rfl:s=_:=N;exact⟨rfl,H.below.below⟩
theorem aGB:szB (BL 0)=true:=by kernel_rfl
theorem aGU:szN ndI=true:=by kernel_rfl
theorem aGh:aGb=true:=by
 unfold aGb bW
 rw[show eU.good szB 1 aGR=true from El.good_iff.2 λe H=>by
  obtain rfl:e=0:=by omega
  exact⟨rfl,aGB⟩,show eN.good szN 1 aGS=true from El.good_iff.2 λe H=>by
  obtain rfl:e=0:=by omega
  exact⟨rfl,aGU⟩,aGB]
 rfl
theorem aFY:my d aFK (aGK d) (λ_ _=>none) 12 7 [] (λr=>r=cB.enc true):=by
 rw[aF6];unfold sa1 sa2 sa3;refine ac ?_ λ_ _=>ac ?_ λ_ _=>ac ?_ λ_ _=>ac aGh λ_ _=>aFu (aFu (ac (by simp) rfl))
 ·unfold aeT;rw[za2,ac5,ac5];exact⟨rfl,rfl⟩
 ·unfold aeT;rw[za2,ac5,ac5];exact⟨rfl,rfl⟩
 ·unfold aeT;rw[za2,ac5,ac5];exact⟨rfl,rfl⟩
theorem aFZ (H:GlobP d W):CtrOK prog W 7 (k0 cB true):=
 GF (gn aFT aGt H (ann:=λ_ _=>none) (n:=12) NU (cB.ids _) aFY)
variable {L:Go.Sy.Loc}
theorem aHm (H:zdH) (xs:List (Int×Int)) (at' b:Int) (hx: ∀x∈xs,(cl x.1&&cl x.2)=true) (hB:BlkOK (λ_=>L) 0 (e2.old xs) W) (ha:cl at'=true) (hg: ∃d,GlobQ d W):
 Calls prog 3 #[.string H,(SV.slc 0 0 xs.length).conc (λ_=>L), .int .i64 at', .int .u8 b] W λe w'=>e= .returned (.bool true)/\Below W.heap.size W w':=by
 obtain⟨d,hg⟩:=hg
 obtain⟨β,hβ,h⟩:=aFh (aIt λd W hW=>aFZ hW.1) (MPk.of MEk.nil) hg (ann:=aCE (MI11 xs) (NI11 xs) (aHx I3 I4x)) (n:=12) (F:=3) (args:= [cS.enc H, .slc (14+1) 0 xs.length,cI.enc at',cB8.enc b]) (Bs:= [e2.old xs]) (βB:=λ_=>L) (λi B J=>by
  cases i with
  |zero=>obtain rfl:=zbk J;exact⟨hB,rfl,λe _=>e2.ids _⟩
  |succ i=>simp at J) (λs N i hi=>by
  simp only[zai,zbx,or_false] at N;rcases N with rfl|rfl|rfl|rfl
  ·cases hi
  ·have:i=14+1:=by simpa [SV.ids] using hi
   exact⟨0,by omega,Nat.zero_lt_succ _⟩
  ·cases hi
  ·cases hi) (aHK (λp hp=>by have:=hx p hp;rw[za2] at this;exact this) ha rfl)
 have ea:(SV.concs β [cS.enc H, .slc (14+1) 0 xs.length,cI.enc at',cB8.enc b]).toArray= #[.string H,(SV.slc 0 0 xs.length).conc (λ_=>L), .int .i64 at', .int .u8 b]:=by
  have Y:(SV.slc (14+1) 0 xs.length).conc β=(SV.slc 0 0 xs.length).conc (λ_=>L):=by
   have:=hβ 0;rw[zaY] at this;unfold SV.conc addr;rw[this]
  simp only[SV.concs,Y];rfl
 rw[<-ea];exact h
theorem aHi (H:zdH) (xs:List (Int×Int)) (at' b:Int) (_:H.size<=maxLen) (N: ∀x∈xs,(cl x.1&&cl x.2)=true) (hB:BlkOK (λ_=>L) 0 (e2.old xs) W) (_:xs.length<=maxLen) (J:B64 at') (_:IntKind.u8.min<=b/\b<=IntKind.u8.max) (_:World) (hg: ∃d,GlobQ d W):
 Calls prog 3 #[.string H,(SV.slc 0 0 xs.length).conc (λ_=>L), .int .i64 at', .int .u8 b] W λe w'=>e= .returned (.bool true)/\Below W.heap.size W w':=
 aHm H xs at' b N hB (V4.2 J) hg
end Go.Proofs.YtdjfpjmijhjmpaaGreatDoor
