import Derived.Test.YtdjfpjmijhjmpaaGreatDoorZf
import Derived.Test.YtdjfpjmijhjmpaaGreatDoorRows
import Derived.HandedShaped
import Derived.ProofKit
import Derived.OpenShut
import Derived.LaidMore
import Derived.Lay
import Derived.Lib.LaidTab
import Derived.Shelf.Vars
import Derived.Stop.LaidErr
import Derived.Stop.Joined
import Derived.Carry
set_option linter.unusedVariables false
set_option linter.unusedSimpArgs false
set_option maxRecDepth 100000
noncomputable section
namespace Go.Proofs.YtdjfpjmijhjmpaaGreatDoor
open Go.Proofs.Tryz
open Go.ChangeShapes Go.WideShapes Go.ChangeAt Go.RowKit Yk
theorem oQ {H:Type} {enc:TypeId×Value->H} {a:Assume} {C:Checked} {os:Os} {f:FuncId} {fn:Func} {s:ChangeSpec} {conds:List PathCond} {apart fresh handsOn again:Bool} {X:World->Array Value->Prop}
 (hX: ∀(w w':World) (args:Array Value),w.heap=w'.heap->X w args->X w' args)
 (own:ownKnob C.prog.godebug=none) (started:os.Started) (noInit:C.prog.inits.idxOf? f=none) (e0:C.prog.funcs[f]? =some fn)
 (witness: ∃(w:World) (tape:Tape) (i:Input),w.os=os/\(w.forCall tape i).Shaped C.prog/\i.vars= []/\Input.okWide C.prog (w.forCall tape i) .any w.heap.size f i/\
   ((s.pre enc C.prog fn conds apart (w.forCall tape i).memory i.args/\X (w.forCall tape i).memory i.args)/\sizedMet enc C.prog fn (OpenSpec.ofChange s) apart (w.forCall tape i).memory i.args)/\a.holds C.prog (lone (Frame.enter C.prog f i.args .normal) [] (w.forCall tape i)))
 (contract: ∀(W:World) (base:Nat) (args:Array Value) (ds gs:List (DataW H)) (before:List MemPlace),
   (∀(j:Nat) t v,fn.params[j]? =some t->args[j]? =some v->Value.okWide C.prog W .any base t v)->
   DataW.Whole enc C.prog fn.params.toList s.vars apart W args.toList ds gs before->
   X W args->W.ShapedOpen C.prog->
   Calls C.prog f args W λe W'=> ∃v,e= .returned v/\s.post enc C.prog fn apart fresh handsOn again W args v W'):
 ReturnsInHanded a C os f .any (λw args=>(s.pre enc C.prog fn conds apart w args/\X w args)/\sizedMet enc C.prog fn (OpenSpec.ofChange s) apart w args) (s.post enc C.prog fn apart fresh handsOn again):=by
 refine returnsInHanded_of_calls own started noInit witness ?_;intro w tape i _ i0 _ g0 N hholds;obtain⟨_,_,_,a0,J,_,_,_,_,Y⟩:=g0;have e:a0=fn:=zbj (J.symm.trans e0);subst e;obtain⟨⟨⟨ds,gs,before,hw,hc⟩,hx⟩,hz⟩:=N;have j0:=DataW.Whole.of_heap (w':=w.forCall tape i) (by rfl) hw;refine(contract (w.forCall tape i) w.heap.size i.args ds gs before Y j0 (hX _ _ _ (by rfl) hx) i0).mono λe W' ⟨v,he,hp⟩=> ?_;subst he;exact ChangeSpec.post_blind hp
theorem own:ownKnob prog.godebug=none:=by kernel_rfl
variable {W:World}
theorem MM (h:W.ShapedOpen prog): ∃m,W.cell? ⟨6,0,none⟩=some (.int .i64 m):=
 cell_of_shapedOpen_int (t:=3) (zero:= #[.int .i64 0]) h (zdu (by kernel_rfl)) (by kernel_rfl) (by kernel_rfl) (by kernel_rfl) (by kernel_rfl) underlying3
theorem MN:(Rows.laid_internal_strconv_uint64pow10:DataW Unit)=Lib.tabData .u64 Lib.pow10Tab:=by kernel_rfl
theorem No:prog.globalNamed "strconv.ErrRange" =some 10:=by kernel_rfl
theorem Np:prog.globalNamed "strconv.ErrSyntax" =some 9:=by kernel_rfl
theorem QB: "*" ++ "errors.errorString" = "*errors.errorString" :=by decide
theorem JV (u:TypeId) (h:prog.typeName? 3 u=some "*errors.errorString"):u=402:=
 typeName_ptr_named (nm:= "errors.errorString") (by rw[QB];kernel_rfl) (by kernel_rfl) (by decide) u (by rw[QB];exact h)
theorem aGc (h:W.ShapedOpen prog) {r r':List (String×DataW Unit)} (J:laidMet prog (("internal/strconv.uint64pow10",Rows.laid_internal_strconv_uint64pow10)::r) W) (H:laidMet prog (("strconv.ErrRange",Rows.laid_strconv_ErrRange)::("strconv.ErrSyntax",Rows.laid_strconv_ErrSyntax)::r') W):GlobU W:=by
 have ht:Lib.TabIs prog W "internal/strconv.uint64pow10" .u64 Lib.pow10Tab:=
  Lib.tabIs_of_head NL (by kernel_rfl) underlying398 underlying348 (by kernel_rfl) (by kernel_rfl) (MN▸J)
 obtain⟨a0,s0,N,_,_,_⟩:=laid_sentinel (g:=10) (ti:=128) (tp:=402) (te:=404) (ts:=9) H No (by kernel_rfl) underlying128 JV underlying402 underlying404 rfl rfl underlying9 (by kernel_rfl) (by kernel_rfl);obtain⟨a1,s1,Y,_,_,_⟩:=laid_sentinel (g:=9) (ti:=128) (tp:=402) (te:=404) (ts:=9) (laidMet.tail H) Np (by kernel_rfl) underlying128 JV underlying402 underlying404 rfl rfl underlying9 (by kernel_rfl) (by kernel_rfl);have c0:=World.var?_cell No N 0;have c1:=World.var?_cell Np Y 0;exact⟨⟨MM h,ht,World.block_lt_of_cell? W _ (ht.cell NL 0 (by decide))⟩,⟨_,by simpa using c1, .inr ⟨_,_,rfl⟩⟩,⟨_,by simpa using c0, .inr ⟨_,_,rfl⟩⟩⟩
end Go.Proofs.YtdjfpjmijhjmpaaGreatDoor
namespace Go.Proofs.YtdjfpjmijhjmpaaGreatDoor
open Go.Proofs.Tryz
open Go Go.RowKit Go.Sy Yk
open Go.ChangeShapes Go.WideShapes Go.ChangeAt
theorem aGu:prog.globalNamed "yardstick/enclosure.errFails" =some 5:=by kernel_rfl
theorem aGv:prog.globalNamed "yardstick/affine.errFails" =some 4:=by kernel_rfl
theorem aGw:prog.globalNamed "yardstick/plan.errFails" =some 2:=by kernel_rfl
theorem aGz:prog.globalNamed "yardstick/yardstickref11.Takes" =some 0:=by kernel_rfl
theorem aGA:prog.globalNamed "yardstick/yardstickref11.Puts" =some 1:=by kernel_rfl
theorem aGL:(Rows.laid_yardstick_yardstickref11_Takes:DataW Unit)=Lib.tabData .i64 [0,0,0,2,2,2,2,1,1,0]:=by kernel_rfl
theorem aGM:(Rows.laid_yardstick_yardstickref11_Puts:DataW Unit)=Lib.tabData .i64 [1,1,1,2,1,1,1,1,1,0]:=by kernel_rfl
theorem aFX {W:World} {n:String} {g:Nat} {text:List UInt8} {r:List (String×DataW Unit)} (N:laidMet prog ((n, .iface "*errors.errorString" (.ptr (.agg [.lit (.string text)])))::r) W) (hg:prog.globalNamed n=some g) (Y:(prog.globals[g]?).map (·.type)=some 128): ∃a,W.cell? ⟨g,0,none⟩=some (evE a):=by
 obtain⟨J,s0,H,_,_,_⟩:=laid_sentinel (g:=g) (ti:=128) (tp:=402) (te:=404) (ts:=9) N hg Y underlying128 JV underlying402 underlying404 rfl rfl underlying9 (by kernel_rfl) (by kernel_rfl);have c0:=World.var?_cell hg H 0;exact⟨J,by unfold evE;simpa using c0⟩
variable {i:Nat}
theorem aGd (hi:i<10):([0,0,0,2,2,2,2,1,1,0]:List Int).getD i 0=gi i:=by
 revert i;decide
theorem aGe (hi:i<10):([1,1,1,2,1,1,1,1,1,0]:List Int).getD i 0=lj i:=by
 revert i;decide
end Go.Proofs.YtdjfpjmijhjmpaaGreatDoor
namespace Yk
open Go.Proofs.YtdjfpjmijhjmpaaGreatDoor
open Go Go.RowKit Go.ChangeShapes Go.WideShapes
section
variable {H:Type} {enc:TypeId×Value->H} {P:Program} {w:World} {base b0:Nat} {spare:zdQ} {held:Bool} {r:Reach} {v:Value} {d:DataW H} {ps:List MemPlace}
theorem ki {z:Int} (h:(Lit.int .i64 z).wf=true): -9223372036854775808<=z/\z<=9223372036854775807:=bounds_i64 h
end
theorem aFQ {H:Type} {enc:TypeId×Value->H} {P:Program} (hl:laidOutB P=true) {W W':World} (hb:Below W.heap.size W W'): ∀(ts:List TypeId) (vs:zdK) (J:List (DataW H)) (p:List MemPlace),
 (∀t∈ts,P.readableRec t=true/\t<P.types.size)->(∀x∈p,x.block<W.heap.size)->DataW.TrodAll enc P W 0 (λ_=>true) true ts vs J p->DataW.TrodAll enc P W' 0 (λb=>decide (b<W.heap.size)) true ts vs J p
 | [], [], [],_,_,_,h=>h
 |t::ts,v::vs,d::J,_,N,hp,h=>by
  obtain⟨p,q,h1,h2,rfl⟩:=h;exact⟨p,q,Below.trod hl (N t (by simp)).1 (N t (by simp)).2 h1 hb (λx Y=>hp x (by simp[Y])),aFQ hl hb ts vs J q (λt ht=>N t (by simp[ht])) (λx Y=>hp x (by simp[Y])) h2,rfl⟩
 | [], [],_::_,_,_,_,h=>h.elim
 | [],_::_,_,_,_,_,h=>h.elim
 |_::_, [],_,_,_,_,h=>h.elim
 |_::_,_::_, [],_,_,_,h=>h.elim
inductive Leaf where
 |int (k:IntKind)
 |bool
 |str
def Leaf.ok:Leaf->Value->Prop
 | .int k,v=> ∃z,v= .int k z/\k.min<=z/\z<=k.max
 | .bool,v=> ∃b,v= .bool b
 | .str,v=> ∃s:zdG,v= .string s/\s.size<=maxLen
def okL:List Leaf->List Value->Prop
 | [], []=>True
 |l::J,v::vs=>l.ok v/\okL J vs
 |_,_=>False
theorem arC: ∀{ls:List Leaf} {vs:zdK},okL ls vs->vs.length=ls.length
 | [], [],_=>rfl
 |_::_,_::_,h=>by simp[arC h.2]
 | [],_::_,h=>h.elim
 |_::_, [],h=>h.elim
theorem Q9: ∀{a b:List Leaf} {u v:zdK},okL a u->okL b v->okL (a++b) (u++v)
 | [],_, [],_,_,h=>h
 |_::_,_,_::_,_,h,k=>⟨h.1,Q9 h.2 k⟩
 | [],_,_::_,_,h,_=>h.elim
 |_::_,_, [],_,h,_=>h.elim
def Ri (P:Program) (g:TypeId->Option (List Leaf)):List Field->Nat->Option (List Leaf)
 | [],_=>some []
 |f::fs,off=>match g f.type with
  |some l=>if P.cellsOf f.type=l.length/\f.offset=off then(match Ri P g fs (off+l.length) with
   |some r=>some (l++r)
   |none=>none) else none
  |none=>none
def QV (P:Program):Nat->TypeId->Option (List Leaf)
 |0,_=>none
 |d+1,t=>match P.underlying t with
  |some .bool=>some [.bool]
  |some (.int k)=>some [.int k]
  |some .string=>some [.str]
  |some (.array n e)=>match QV P d e with
   |some l=>if P.cellsOf e=l.length/\P.cellsOf t=n*l.length then some (List.replicate n l).flatten else none
   |none=>none
  |some (.struct fs)=>match Ri P (QV P d) fs.toList 0 with
   |some l=>if P.cellsOf t=l.length then some l else none
   |none=>none
  |_=>none
section
variable {H:Type} {enc:TypeId×Value->H} {P:Program} {w:World} {base:Nat} {spare:zdQ} {held:Bool}
theorem Sx {l:List Leaf}: ∀(n:Nat) (cs:zdK),cs.length=n*l.length->(∀i,i<n->okL l ((cs.drop (i*l.length)).take l.length))->okL (List.replicate n l).flatten cs
 |0,cs,J,_=>by
  have:cs= []:=zau (by omega);subst this;trivial
 |n+1,cs,J,h=>by
  rw[zcd,List.flatten_cons,<-zdm l.length cs];refine Q9 (by simpa using h 0 (by omega)) (Sx n _ (by rw[zbQ,J,zaG];omega) λi hi=> ?_);have:=h (i+1) (by omega);rw[List.drop_drop];rwa[zaG,Nat.one_mul,zb3] at this
theorem Rj {g:TypeId->Option (List Leaf)} (hg: ∀{fuel:Nat} {t:TypeId} {cs:zdK} {x:DataW H×List MemPlace} {l:List Leaf},g t=some l->DataW.trod enc P w base spare held fuel t cs=some x->okL l cs):
 ∀{fs:List Field} {off:Nat} {cs:zdK} {l:List Leaf},Ri P g fs off=some l->off+l.length<=cs.length->
 (∀f∈fs,∃fuel x,DataW.trod enc P w base spare held fuel f.type ((cs.drop f.offset).take (P.cellsOf f.type))=some x)->okL l ((cs.drop off).take l.length)
 | [],off,cs,l,h,_,_=>by simp[Ri] at h;subst h;simp[okL]
 |f::fs,off,cs,l,h,hl,N=>by
  rw[Ri] at h;split at h
  ·rename_i a Y;split at h
   ·rename_i J;split at h
    ·rename_i r hr;cases h;simp only[za3] at hl ⊢;obtain⟨fuel,x,h1⟩:=N f (by simp);rw[J.1,J.2] at h1;have h2:=Rj hg hr (cs:=cs) (by omega) (λg hg=>N g (zan _ hg));rw[List.take_add,List.drop_drop];exact Q9 (hg Y h1) h2
    ·cases h
   ·cases h
  ·cases h
theorem FB: ∀(d:Nat) {fuel:Nat} {t:TypeId} {cs:zdK} {x:DataW H×List MemPlace} {l:List Leaf},QV P d t=some l->DataW.trod enc P w base spare held fuel t cs=some x->okL l cs
 |0,_,_,_,_,_,h,_=>by simp[QV] at h
 |d+1,fuel,t,cs,x,l,h,Y=>by
  rw[QV] at h;split at h
  ·rename_i N;obtain⟨b,rfl,_⟩:=DataW.trod_bool N Y;cases h;exact⟨⟨b,rfl⟩,trivial⟩
  ·rename_i k N;obtain⟨z,rfl,_,hw⟩:=DataW.trod_int N Y;cases h;simp only[Lit.wf,za2,zdt] at hw;exact⟨⟨z,rfl,hw⟩,trivial⟩
  ·rename_i N;obtain⟨s,rfl,_,hs⟩:=DataW.trod_string N Y;cases h;exact⟨⟨s,rfl,hs⟩,trivial⟩
  ·rename_i n e N;split at h
   ·rename_i le a0;split at h
    ·rename_i hc;cases h;obtain⟨xs,m,_,_,hl,hn,J⟩:=DataW.trod_array N Y;rw[hc.2] at hl;rw[hc.1] at J;refine Sx n cs hl λi hi=> ?_;have:=J i hi;rw[zaa (by omega)] at this;exact FB d a0 this
    ·cases h
   ·cases h
  ·rename_i fs N;split at h
   ·rename_i lf e0;split at h
    ·rename_i hc;cases h;obtain⟨xs,m,_,_,hl,hn,J⟩:=DataW.trod_struct N Y;rw[hc] at hl
     have:=Rj (g:=QV P d) (λh1 h2=>FB d h1 h2) (fs:=fs.toList) (off:=0) (cs:=cs) e0 (by omega) (λf hf=>by
      obtain⟨i,hi,e⟩:=zbR hf;have h1:=J i f (by rw[<-Array.getElem?_toList];rw[zaa hi,e]);rw[zaa (by simp at hi;omega)] at h1
      exact⟨_,_,h1⟩)
     rwa[zaZ,zaI (by omega)] at this
    ·cases h
   ·cases h
  ·cases h
theorem aF7 {r:Reach} {b0:Nat} {v:Value} {dd:DataW H} {ps:List MemPlace} {t:TypeId} {k:IntKind} (ht:P.underlying t=some (.int k)) (J:Value.okWide P w r b0 t v)
 (Y:DataW.Trod enc P w base spare held t v dd ps): ∃z:Int,v= .int k z/\k.min<=z/\z<=k.max:=by
 obtain⟨x,rfl,_,_,N⟩:=open_int ht J Y;simp only[Lit.wf,za2,zdt] at N;exact⟨x,rfl,N⟩
end
end Yk
namespace Yk
open Go.Proofs.YtdjfpjmijhjmpaaGreatDoor
open Go Go.RowKit Go.Sy Go.ChangeShapes Go.WideShapes
section
variable {H:Type} {enc:TypeId×Value->H} {P:Program} {w:World} {base:Nat}
variable {α:Type} {e:TypeId} {held:Bool}
theorem ar7 {E:El α} {ok:α->Bool} {ls:List Leaf} (dec: ∀vs,okL ls vs-> ∃y:α,ok y=true/\vs=SV.concs oj (E.sv y)) {fuel:Nat} {a:Addr} {x:DataW H×List MemPlace} {spare:zdQ} {i:Nat} (he:QV P 9 e=some ls) (hs:a.spot=none)
 (h:(w.cells? base (a.add (i*E.sz)) E.sz).bind (DataW.trod enc P w base spare held fuel e)=some x): ∃y:α,ok y=true/\ ∀o z,(E.sv y)[o]? =some z->w.cell? ⟨a.block,a.off+i*E.sz+o,none⟩=some (z.conc oj):=by
 rw[Option.bind_eq_some_iff] at h;obtain⟨cs,Y,hx⟩:=h;obtain⟨_,hl,J⟩:=World.cells?_some Y;obtain⟨y,hy,rfl⟩:=dec cs (FB 9 he hx);refine⟨y,hy,λo z N=> ?_⟩;have ho:o<E.sz:=by
  have:=(zaV.1 N).1;rw[E.len] at this;exact this
 have ad:(a.add (i*E.sz)).add o=⟨a.block,a.off+i*E.sz+o,none⟩:=by
  obtain⟨b,f,s⟩:=a;obtain rfl:s=none:=hs;unfold Addr.add;split<;>split<;>simp_all<;>omega
 rw[<-ad,J o ho,SV.concs_eq,zaL,N];rfl
theorem apG {E:El α} {ok:α->Bool} {r:Reach} {b0:Nat} {v:Value} {dd:DataW H} {ps:List MemPlace} {t:TypeId} (hu:P.underlying t=some (.slice e)) (hs:P.cellsOf e=E.sz)
 (one: ∀{fuel:Nat} {x:DataW H×List MemPlace} {a:Addr} {spare:zdQ} {held:Bool} {i:Nat},a.spot=none->(w.cells? base (a.add (i*E.sz)) E.sz).bind (DataW.trod enc P w base spare held fuel e)=some x-> ∃y:α,ok y=true/\ ∀o z,(E.sv y)[o]? =some z->w.cell? ⟨a.block,a.off+i*E.sz+o,none⟩=some (z.conc oj))
 (Y:Value.okWide P w r b0 t v) (hd:DataW.Trod enc P w base (λ_=>true) held t v dd ps): ∃(xs:List α) (L:Go.Sy.Loc),v=(SV.slc 0 0 xs.length).conc (λ_=>L)/\(∀x∈xs,ok x=true)/\BlkOK (λ_=>L) 0 (E.old xs) w/\xs.length<=maxLen:=by
 obtain⟨a0,J,N,rfl⟩:=okWide_slice hu Y;obtain⟨fuel,hf⟩:=hd;rcases DataW.trod_slice hu hf with ⟨hs,_⟩|⟨a,len,cap,v0,rest,n,_,q0,_,_,C0,z0,B0,g0,j0,_⟩
 ·simp only[Value.cells,zc9,and_true,Value.slice.injEq] at hs;obtain⟨rfl,rfl,rfl⟩:=hs;refine⟨[],⟨0,0,E.sz,0,true⟩,rfl,λx hx=>(by cases hx), ?_,zaA _⟩;exact⟨rfl,λh=>(by cases h),za0 _,λe he=>absurd he (zbm e),λj hj=>(by simp at hj),λh=>(by cases h),λe he=>absurd he (zbm e),λ_=>rfl,λh=>(by cases h)⟩
 ·simp only[Value.cells,zc9,and_true,Value.slice.injEq] at q0;obtain⟨rfl,rfl,rfl⟩:=q0;have hb:a.spot=none/\a.block<w.heap.size:=by
   simp only[Value.okWide,hu] at Y;unfold Cell.okWide at Y;simp only[hu] at Y;unfold Cell.ok at Y;simp only[hu] at Y;obtain⟨_,_,_,j0,row,cells,i0,_⟩:=Y;refine⟨j0, ?_⟩;unfold World.shape? at i0;rcases zah a.block w.heap.size with h|h
   ·exact h
   ·rw[zcC h] at i0;cases i0
  obtain⟨E0,e0⟩:=j0 rfl;rw[hs] at g0 e0;have l0: ∀i,∃y:α,i<N->ok y=true/\ ∀o z,(E.sv y)[o]? =some z->w.cell? ⟨a.block,a.off+i*E.sz+o,none⟩=some (z.conc oj):=λi=>by
   by_cases hi:i<N
   ·by_cases x0:i<J
    ·have:=g0 i x0;rw[zaa (by omega)] at this;obtain⟨y,h⟩:=one hb.1 this;exact⟨y,λ_=>h⟩
    ·have:=e0 (i - J) (by omega);rw[show J+(i - J)=i by omega,zaa (by omega)] at this;obtain⟨y,h⟩:=one hb.1 this;exact⟨y,λ_=>h⟩
   ·exact⟨E.d,λh=>absurd h hi⟩
  obtain⟨g,hg⟩:=Classical.axiomOfChoice l0;have n0:(Go.Sy.tab g J).length=J:=fJ _ _;refine⟨Go.Sy.tab g J,⟨a.block,a.off,E.sz,N,false⟩, ?_,λy hy=> ?_, ?_,by omega⟩
  ·rw[jq rfl (.inr rfl),n0];obtain⟨b,f,s⟩:=a;obtain rfl:s=none:=hb.1;simp[addr]
  ·obtain⟨i,hi⟩:=zby hy;have y0:i<J:=by have:=(zaV.1 hi).1;omega
   rw[qX _ y0] at hi;simp only[za1] at hi;subst hi;exact(hg i (by omega)).1
  ·refine⟨rfl,λ_=>hb.2,by show (Go.Sy.tab g J).length<=N;omega,λe he=>E.len _,λj hj=> ?_,λh=>(by cases h),λe he o s ho=> ?_,λh=>(by cases h),λ_=>rfl⟩
   ·have hj:j<N*E.sz:=hj;have hp:0<E.sz:=by
     rcases zbK E.sz with h|h
     ·rw[h,Nat.mul_zero] at hj;omega
     ·exact h
    have hq:j / E.sz<N:=Nat.div_lt_of_lt_mul (by rw[zay];exact hj);have hm:j%E.sz<(E.sv (g (j / E.sz))).length:=by rw[E.len];exact zar _ hp
    have:=(hg (j / E.sz) hq).2 (j%E.sz) _ (zaa hm);rw[zbq,Nat.div_add_mod'] at this;show (w.cell? ⟨a.block,a.off+j,none⟩).isSome=true;rw[this];rfl
   ·have w0:e<J:=by rw[<-n0];exact he
    have u0:E.get (Go.Sy.tab g J) e=E.sv (g e):=by
     unfold El.get El.nth;rw[bR (qX g w0)]
    have o0:(E.sv (g e))[o]? =some s:=by rw[<-u0];exact ho
    show w.cell? ⟨a.block,a.off+e*E.sz+o,none⟩=_
    rw[(hg e (by omega)).2 o s o0,SV.conc_congr s (β:=oj) (β':=λ_=>(⟨a.block,a.off,E.sz,N,false⟩:Go.Sy.Loc)) (λi h=>by
     have:i∈SV.idss (E.sv (g e)):=SV.mem_idss.2 ⟨s,zal o0,h⟩
     rw[E.ids] at this;cases this)]
end
theorem aoA {β:Nat->Go.Sy.Loc} {L:Go.Sy.Loc} {i:Nat} {B:Go.Sy.Blk} {w:World} (h:BlkOK (λ_=>L) 0 B w) (hl:β i=L) (N: ∀e,e<B.n->SV.idss (B.get e)= []):BlkOK β i B w:=
 wD (i1:=0) h (by rw[hl]) rfl (za0 _) id (λh=> .inl h) λe Y=>⟨rfl,λo s J=>⟨s,J,SV.conc_congr s λj hj=>by
  have:j∈SV.idss (B.get e):=SV.mem_idss.2 ⟨s,zal J,hj⟩
  rw[N e Y] at this;cases this⟩⟩
end Yk
namespace Go.Proofs.YtdjfpjmijhjmpaaGreatDoor
open Go.Proofs.Tryz
open Go Go.RowKit Go.Sy Yk Go.ChangeShapes Go.WideShapes
theorem aCP: ∀vs,okL [.int .i64, .int .i64] vs-> ∃y:Int×Int,(cl y.1&&cl y.2)=true/\vs=SV.concs oj (e2.sv y):=λvs h=>by
 have J:=arC h
 match vs,J,h with
 | [_,_],_,⟨⟨a,rfl,b0⟩,⟨b,rfl,H⟩,_⟩=>exact⟨(a,b),by dsimp only;rw[show cl a=true from Wl.2 b0,show cl b=true from Wl.2 H];rfl,rfl⟩
theorem aEC {H:Type} {enc:TypeId×Value->H} {P:Program} {w:World} {base:Nat} {r:Reach} {b0:Nat} {v:Value} {dd:DataW H} {ps:List MemPlace} {held:Bool} {t e:TypeId} (hu:P.underlying t=some (.slice e)) (N:P.cellsOf e=2/\QV P 9 e=some [.int .i64, .int .i64])
 (J:Value.okWide P w r b0 t v) (Y:DataW.Trod enc P w base (λ_=>true) held t v dd ps): ∃(xs:List (Int×Int)) (L:Go.Sy.Loc),v=(SV.slc 0 0 xs.length).conc (λ_=>L)/\(∀x∈xs,(cl x.1&&cl x.2)=true)/\BlkOK (λ_=>L) 0 (e2.old xs) w/\xs.length<=maxLen:=
 apG (E:=e2) hu N.1 (λhs h=>ar7 aCP N.2 hs h) J Y
theorem so {bl:zdL} {src:zdH} {Cs:zdU} (h1:aip bl src Cs=aga (ab2 src) Cs) (h2:agb bl src Cs=acG (ab2 src) Cs):aeT bl src Cs=true:=by
 unfold aeT;rw[za2,ac5,ac5];exact⟨h1,h2⟩
variable {d:Ad3}
theorem aFY:my d aFK (aGK d) (λ_ _=>none) 12 7 [] (λr=>r=cB.enc true):=by
 rw[aF6];unfold sa1 sa2 sa3;exact ac (so rfl rfl) λ_ _=>ac (so rfl rfl) λ_ _=>ac (so rfl rfl) λ_ _=>ac (so rfl rfl) λ_ _=>aFu (ac (so rfl rfl) λ_ _=>aFu (ac (by simp) rfl))
theorem aFZ {W:World} (H:GlobP d W):CtrOK prog W 7 (k0 cB true):=
 GF (gn aFT aGt H (ann:=λ_ _=>none) (n:=12) NU (cB.ids _) aFY)
theorem I1 {a:Int} (h:B64 a):cl a=true:=Wl.2 h
theorem aLg: ∀vs,okL [.int .i64, .int .i64, .int .i64, .int .i64] vs-> ∃y:Int×Int×Int×Int,(λ_=>true) y=true/\vs=SV.concs oj (eW4.sv y):=λvs h=>by
 have J:=arC h
 match vs,J,h with
 | [_,_,_,_],_,⟨⟨a,rfl,_⟩,⟨b,rfl,_⟩,⟨c,rfl,_⟩,⟨d,rfl,_⟩,_⟩=>exact⟨(a,b,c,d),rfl,rfl⟩
def aL2 (P:Program) (t e:TypeId):Bool:=match P.cellTypes P.depth t with
 |some l=>l.length==38&&l[4]? ==some e
 |none=>false
section
variable {H:Type} {enc:TypeId×Value->H} {P:Program} {w:World} {base:Nat}
theorem aKC {r:Reach} {b0':Nat} {v:Value} {dd:DataW H} {ps:List MemPlace} {held:Bool} {t e:TypeId} {fs:Array Go.Field} {f0 f1 f2 f3 f4 f5 f6 f7:Go.Field} (hu:P.underlying t=some (.struct fs)) (y0:fs.toList= [f0,f1,f2,f3,f4,f5,f6,f7]) (hc:P.cellsOf t=38)
 (h0:f0.offset=0/\P.cellsOf f0.type=3/\QV P 9 f0.type=some (List.replicate 3 (.int .i64))) (h1:f1.offset=3/\P.cellsOf f1.type=1/\QV P 9 f1.type=some [.int .i64]) (h2:f2.offset=4/\P.cellsOf f2.type=1/\P.underlying f2.type=some (.slice e))
 (h3:f3.offset=5/\P.cellsOf f3.type=3/\QV P 9 f3.type=some (List.replicate 3 (.int .i64))) (h4:f4.offset=8/\P.cellsOf f4.type=3/\QV P 9 f4.type=some (List.replicate 3 (.int .i64))) (h5:f5.offset=11/\P.cellsOf f5.type=18/\QV P 9 f5.type=some (List.replicate 18 (.int .i64)))
 (h6:f6.offset=29/\P.cellsOf f6.type=6/\QV P 9 f6.type=some (List.replicate 6 (.int .i64))) (h7:f7.offset=35/\P.cellsOf f7.type=3/\QV P 9 f7.type=some (List.replicate 3 (.int .i64)))
 (he:P.cellsOf e=4/\QV P 9 e=some [.int .i64, .int .i64, .int .i64, .int .i64]) (ht:aL2 P t f2.type=true)
 (Y:Value.okWide P w r b0' t v) (hd:DataW.Trod enc P w base (λ_=>true) held t v dd ps): ∃(c:CsR) (ws:List (Int×Int×Int×Int)) (L:Go.Sy.Loc),v=(SV.agg (csL c (.slc 0 0 ws.length))).conc (λ_=>L)/\uCs c=true/\BlkOK (λ_=>L) 0 (eW4.old ws) w:=by
 simp only[Value.okWide,hu] at Y;obtain⟨cs,rfl,C0,ts,E0,_,N⟩:=Y;have v0:ts.length=38/\ts[4]? =some f2.type:=by
  unfold aL2 at ht;rw[E0] at ht;simpa using ht
 obtain⟨v2,hf⟩:=hd;obtain⟨xs,m,_,_,hl,hn,w0⟩:=DataW.trod_struct hu hf;have hL:cs.toList.length=38:=by rw[Array.length_toList,C0,hc]
 have J: ∀(i:Nat) (f:Go.Field),fs.toList[i]? =some f-> ∃x,DataW.trod enc P w base (λ_=>true) held m f.type ((cs.toList.drop f.offset).take (P.cellsOf f.type))=some x:=λi f hi=>by
  have h1:=w0 i f (by rw[<-Array.getElem?_toList];exact hi);have z0:i<fs.toList.length:=(zaV.1 hi).1;rw[zaa (by simp at z0;omega)] at h1;exact⟨_,h1⟩
 rw[y0] at J;obtain⟨cs⟩:=cs;dsimp only at hL J N ⊢
 match cs,hL with
 |w2::x2::y2::z2::o0::A2::B2::C2::D2::E2::b1::c1::v1::w1::y1::z1::A1::C1::D1::E1::F1::H1::K1::L1::M1::N1::O1::R1::S1::T1::U1::W1::X1::Y1::b2::i2::o2::s2:: [],_=>
 obtain⟨x0,k0⟩:=J 0 f0 rfl;obtain⟨x1,k1⟩:=J 1 f1 rfl;obtain⟨⟨d2,p2⟩,k2⟩:=J 2 f2 rfl;obtain⟨x3,k3⟩:=J 3 f3 rfl;obtain⟨x4,k4⟩:=J 4 f4 rfl;obtain⟨x5,k5⟩:=J 5 f5 rfl;obtain⟨x6,k6⟩:=J 6 f6 rfl;obtain⟨x7,k7⟩:=J 7 f7 rfl;rw[h0.1,h0.2.1] at k0;rw[h1.1,h1.2.1] at k1;rw[h2.1,h2.2.1] at k2;rw[h3.1,h3.2.1] at k3;rw[h4.1,h4.2.1] at k4;rw[h5.1,h5.2.1] at k5;rw[h6.1,h6.2.1] at k6;rw[h7.1,h7.2.1] at k7;obtain⟨⟨a0,rfl,_⟩,⟨a1,rfl,_⟩,⟨a2,rfl,_⟩,_⟩:=FB 9 h0.2.2 k0;obtain⟨⟨a3,rfl,_⟩,_⟩:=FB 9 h1.2.2 k1;obtain⟨⟨e0,rfl,g0⟩,⟨e1,rfl,g1⟩,⟨e2,rfl,g2⟩,_⟩:=FB 9 h3.2.2 k3;obtain⟨⟨r0,rfl,j0⟩,⟨r1,rfl,j1⟩,⟨r2,rfl,j2⟩,_⟩:=FB 9 h4.2.2 k4;obtain⟨⟨q0,rfl,l0⟩,⟨q1,rfl,l1⟩,⟨q2,rfl,l2⟩,⟨q3,rfl,l3⟩,⟨q4,rfl,l4⟩,⟨q5,rfl,l5⟩,⟨q6,rfl,l6⟩,⟨q7,rfl,l7⟩,⟨q8,rfl,l8⟩,⟨q9,rfl,l9⟩,⟨P0,rfl,l10⟩,⟨Q0,rfl,H0⟩,⟨R0,rfl,I0⟩,⟨T0,rfl,K0⟩,⟨U0,rfl,L0⟩,⟨V0,rfl,M0⟩,⟨Y0,rfl,N0⟩,⟨Z0,rfl,O0⟩,_⟩:=FB 9 h5.2.2 k5;obtain⟨⟨u0,rfl,m0⟩,⟨u1,rfl,m1⟩,⟨u2,rfl,m2⟩,⟨u3,rfl,m3⟩,⟨u4,rfl,m4⟩,⟨u5,rfl,m5⟩,_⟩:=FB 9 h6.2.2 k6;obtain⟨⟨p0,rfl,n0⟩,⟨p1,rfl,n1⟩,⟨p2,rfl,n2⟩,_⟩:=FB 9 h7.2.2 k7;obtain⟨u,i0,B0⟩:=N 4 o0 rfl;rw[v0.1,v0.2] at i0;simp only[za1] at i0;subst i0;have v4:Value.okWide P w r b0' f2.type o0:=by simp only[Value.okWide,h2.2.2];exact B0
 obtain⟨a,l,n,rfl⟩:=okWide_slice h2.2.2 v4;obtain⟨ws,L,q,_,B1,_⟩:=apG (E:=eW4) (ok:=λ_=>true) h2.2.2 he.1 (λhs h=>ar7 aLg he.2 hs h) v4 ⟨m,k2⟩;refine⟨⟨(a0,a1,a2),a3,(e0,e1,e2),(r0,r1,r2),(q0,q1,q2,q3,q4,q5),(q6,q7,q8,q9,P0,Q0),(R0,T0,U0,V0,Y0,Z0),(u0,u1,u2,u3,u4,u5),(p0,p1,p2)⟩,ws,L, ?_, ?_,B1⟩
 ·rw[q];rfl
 ·unfold uCs uI3 uA6;dsimp only;rw[I1 g0,I1 g1,I1 g2,I1 j0,I1 j1,I1 j2,I1 l0,I1 l1,I1 l2,I1 l3,I1 l4,I1 l5,I1 l6,I1 l7,I1 l8,I1 l9,I1 l10,I1 H0,I1 I0,I1 K0,I1 L0,I1 M0,I1 N0,I1 O0,I1 m0,I1 m1,I1 m2,I1 m3,I1 m4,I1 m5,I1 n0,I1 n1,I1 n2];rfl
end
def aLI (L M O:Go.Sy.Loc) (i:Nat):Go.Sy.Loc:=match i with
 |0=>L
 |1=>M
 |_=>O
theorem aMT:GPk gTg:=
 (((aDU.cons (λd W J=>aKM J) call49).cons (λd W J=>aC9 J) call17).cons (λd W J=>aDm J) call11).cons (λd W J=>aFZ J) call7
theorem aLJ {d:Ad3}:MRk d aMQ:=(MRk.of (((((MPk.of MEk.nil).cons aK4).cons aLy).cons aLw).cons aLv)).cons aKH
variable {L M O:Go.Sy.Loc} {W:World}
theorem aJk (xs N:List (Int×Int)) (at' b:Int) (c:CsR) (J:List (Int×Int×Int×Int)) (hx: ∀x∈xs,(cl x.1&&cl x.2)=true) (hy: ∀x∈N,(cl x.1&&cl x.2)=true) (hB:BlkOK (λ_=>L) 0 (e2.old xs) W) (hC:BlkOK (λ_=>M) 0 (e2.old N) W) (hD:BlkOK (λ_=>O) 0 (eW4.old J) W) (ha:cl at'=true) (hc:uCs c=true) (hg: ∃d,GlobR d W):
 Calls prog 4 #[(SV.slc 0 0 xs.length).conc (λ_=>L),(SV.slc 0 0 N.length).conc (λ_=>M), .int .i64 at', .int .u8 b,(SV.agg (csL c (.slc 0 0 J.length))).conc (λ_=>O)] W λe w'=>e= .returned (.bool true)/\Below W.heap.size W w':=by
 obtain⟨d,hg⟩:=hg
 obtain⟨β,hβ,h⟩:=aLL aMT aLJ hg (ann:=λ_ _=>none) (n:=12) (F:=4) (args:= [.slc (14+1) 0 xs.length, .slc (14+2) 0 N.length,cI.enc at',cB8.enc b, .agg (csL c (.slc (14+3) 0 J.length))]) (Bs:= [e2.old xs,e2.old N,eW4.old J]) (βB:=aLI L M O) (r0:=cB.enc true) (v:= .bool true) (λ_=>rfl) (λi B Y=>by
  match i with
  |0=>obtain rfl:=zbj Y;exact⟨aoA hB rfl λe _=>e2.ids _,rfl,λe _=>e2.ids _⟩
  |1=>obtain rfl:=zbj Y;exact⟨aoA hC rfl λe _=>e2.ids _,rfl,λe _=>e2.ids _⟩
  |2=>obtain rfl:=zbj Y;exact⟨aoA hD rfl λe _=>eW4.ids _,rfl,λe _=>eW4.ids _⟩
  |i+3=>simp at Y) (λs hs i hi=>by
  simp only[zai,zbw,or_false] at hs;rcases hs with rfl|rfl|rfl|rfl|rfl
  ·have:i=14+1:=by simpa [SV.ids] using hi
   exact⟨0,by omega,by simp⟩
  ·have:i=14+2:=by simpa [SV.ids] using hi
   exact⟨1,by omega,by simp⟩
  ·cases hi
  ·cases hi
  ·have:i=14+3:=by simpa [csL,i3L,a6L,SV.ids,SV.idss] using hi
   exact⟨2,by omega,by simp⟩) (by
  have e:=aMS d xs N J at' b c (λr=>r=cB.enc true);unfold aMR at e;rw[e]
  exact aMx hx hy ha hc rfl)
 have ea:(SV.concs β [.slc (14+1) 0 xs.length, .slc (14+2) 0 N.length,cI.enc at',cB8.enc b, .agg (csL c (.slc (14+3) 0 J.length))]).toArray= #[(SV.slc 0 0 xs.length).conc (λ_=>L),(SV.slc 0 0 N.length).conc (λ_=>M), .int .i64 at', .int .u8 b,(SV.agg (csL c (.slc 0 0 J.length))).conc (λ_=>O)]:=by
  have b0:β (14+1)=L:=hβ 0;have b1:β (14+2)=M:=hβ 1;have b2:β (14+3)=O:=hβ 2;have e0:(SV.slc (14+1) 0 xs.length).conc β=(SV.slc 0 0 xs.length).conc (λ_=>L):=by unfold SV.conc addr;rw[b0]
  have e1:(SV.slc (14+2) 0 N.length).conc β=(SV.slc 0 0 N.length).conc (λ_=>M):=by unfold SV.conc addr;rw[b1]
  have e2:(SV.slc (14+3) 0 J.length).conc β=(SV.slc 0 0 J.length).conc (λ_=>O):=by unfold SV.conc addr;rw[b2]
  have e3:(SV.agg (csL c (.slc (14+3) 0 J.length))).conc β=(SV.agg (csL c (.slc 0 0 J.length))).conc (λ_=>O):=by
   unfold csL i3L a6L;simp only[zaO,zaM,SV.conc,SV.concs] at e2 ⊢;simp only[e2]
  simp only[SV.concs,e0,e1,e3];rfl
 rw[<-ea];exact h
theorem aJh (xs J:List (Int×Int)) (at' b:Int) (c:CsR) (N:List (Int×Int×Int×Int)) (hx: ∀x∈xs,(cl x.1&&cl x.2)=true) (hB:BlkOK (λ_=>L) 0 (e2.old xs) W) (_:xs.length<=maxLen) (hy: ∀x∈J,(cl x.1&&cl x.2)=true) (Y:BlkOK (λ_=>M) 0 (e2.old J) W) (_:J.length<=maxLen) (ha:B64 at') (_:IntKind.u8.min<=b/\b<=IntKind.u8.max) (hc:uCs c=true) (hD:BlkOK (λ_=>O) 0 (eW4.old N) W) (_:World) (hg: ∃d,GlobR d W):
 Calls prog 4 #[(SV.slc 0 0 xs.length).conc (λ_=>L),(SV.slc 0 0 J.length).conc (λ_=>M), .int .i64 at', .int .u8 b,(SV.agg (csL c (.slc 0 0 N.length))).conc (λ_=>O)] W λe w'=>e= .returned (.bool true)/\Below W.heap.size W w':=
 aJk xs J at' b c N hx hy hB Y hD (V4.2 ha) hc hg
end Go.Proofs.YtdjfpjmijhjmpaaGreatDoor
namespace Go.Proofs.YtdjfpjmijhjmpaaGreatDoor
open Go.Proofs.Tryz
open Go Go.RowKit Go.Sy Yk
open Go.ChangeShapes Go.WideShapes Go.ChangeAt
def aIX:List (String×DataW Unit):=Rows.planTogetherRow.laid
theorem aLh {W:World} (h:W.ShapedOpen prog) (H:laidMetH prog aIX W): ∃d,GlobR d W:=by
 rw[MakeChecks.laidMetH_plain _ _ _ (by kernel_rfl)] at H;have h2:=laidMet.tail (laidMet.tail H);have h4:=laidMet.tail (laidMet.tail h2);have h5:=laidMet.tail h4;have h7:=laidMet.tail h5;have J:=aGc h h2 h7;have h9:=laidMet.tail (laidMet.tail h7);obtain⟨e,N⟩:=aFX h9 aGu (by kernel_rfl);obtain⟨f,Y⟩:=aFX (laidMet.tail h9) aGv (by kernel_rfl);obtain⟨p,hp⟩:=aFX (laidMet.tail (laidMet.tail h9)) aGw (by kernel_rfl);have tk:=Lib.tabIs_of_head aGz (by kernel_rfl) underlying82 underlying3 (by kernel_rfl) (by kernel_rfl) (aGL▸h4);have pt:=Lib.tabIs_of_head aGA (by kernel_rfl) underlying82 underlying3 (by kernel_rfl) (by kernel_rfl) (aGM▸h5);refine⟨⟨e,f,p⟩,⟨⟨J,N⟩,Y,hp⟩,λi hi=> ?_,λi hi=> ?_⟩
 ·rw[<-aGd hi];exact tk.cell aGz i hi
 ·rw[<-aGe hi];exact pt.cell aGA i hi
end Go.Proofs.YtdjfpjmijhjmpaaGreatDoor
