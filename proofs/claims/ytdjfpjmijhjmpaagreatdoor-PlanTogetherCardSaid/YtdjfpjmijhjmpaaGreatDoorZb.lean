import Derived.Test.YtdjfpjmijhjmpaaGreatDoorZa
import Derived.WalkKit
import Derived.Orders
import Derived.Below
import Derived.Scope
import Derived.ArgAppend
import Derived.MapKept
import Derived.Lib.AtoiErrMem
import Derived.RangeFuncRecord
import Derived.OrdersIn
import Derived.TacticsIn
import Derived.Defers
set_option linter.unusedVariables false
set_option linter.unusedSimpArgs false
namespace Go.Sy
open Go.RowKit
section
inductive SV where
 |val (v:Value)
 |ptr (id e o:Nat)
 |slc (id e len:Nat)
 |agg (cs:List SV)
 |tup (vs:List SV)
 |fn (f:Fn) (first caps:List SV)
 |mp (id:Nat)
 |yl (id:Nat)
 deriving Inhabited
structure Loc where
 blk:Nat
 off:Nat
 sz:Nat
 cap:Nat
 nil:Bool
abbrev _root_.zdI:=Nat->Loc
def oj:zdI:=λ_=>⟨0,0,0,0,false⟩
def addr (β:zdI) (id e o:Nat):Addr:=⟨(β id).blk,(β id).off+e*(β id).sz+o,none⟩
mutual
def SV.conc (β:Nat->Loc):SV->Value
 | .val v=>v
 | .ptr id e o=> .pointer (some (addr β id e o))
 | .slc id e len=> .slice (bif (β id).nil then none else some (addr β id (bif Nat.beq (β id).cap e then 0 else e) 0)) len ((β id).cap - e)
 | .agg cs=> .agg (SV.concs β cs).toArray
 | .tup vs=> .tuple (SV.concs β vs).toArray
 | .fn f a c=> .func f (SV.concs β a).toArray (SV.concs β c).toArray
 | .mp id=> .map (some (β id).blk)
 | .yl id=> .func (.yield (β id).blk) #[] #[]
def SV.concs (β:Nat->Loc):List SV->List Value
 | []=> []
 |x::xs=>SV.conc β x::SV.concs β xs
end
theorem bS (i j:Nat):Nat.beq i j=decide (i=j):=by
 by_cases h:i=j
 ·subst h;simp
 ·have:Nat.beq i j=false:=by
   cases hh:Nat.beq i j with
   |false=>rfl
   |true=>exact absurd (zab hh) h
  simp[this,h]
theorem aB {i b:Nat}:Nat.blt i b=decide (i<b):=by
 by_cases h:i<b
 ·rw[zdp h];exact zae h
 ·rw[zds h];cases H:Nat.blt i b with
  |true=>exact absurd (zak H) h
  |false=>rfl
theorem jq {β:zdI} {id e len:Nat} (J:(β id).nil=false) (H:(β id).cap≠e\/e=0):(SV.slc id e len).conc β= .slice (some (addr β id e 0)) len ((β id).cap - e):=by
 simp only[SV.conc,J,zdq];rcases H with H|rfl
 ·rw[bS];simp[H]
 ·simp
abbrev _root_.zdJ:=List SV
theorem SV.concs_eq (β:zdI) (l:zdJ):SV.concs β l=l.map (SV.conc β):=by
 induction l with
 |nil=>simp[SV.concs]
 |cons x xs H=>simp[SV.concs,H]
mutual
def SV.ids:SV->List Nat
 | .val _=> []
 | .ptr id _ _=> [id]
 | .slc id _ _=> [id]
 | .agg cs=>SV.idss cs
 | .tup vs=>SV.idss vs
 | .fn _ a c=>SV.idss a++SV.idss c
 | .mp id=> [id]
 | .yl id=> [id]
def SV.idss:List SV->List Nat
 | []=> []
 |x::xs=>SV.ids x++SV.idss xs
end
theorem SV.mem_idss {l:zdJ} {i:Nat}:i∈SV.idss l↔ ∃x∈l,i∈SV.ids x:=by
 induction l with
 |nil=>simp[SV.idss]
 |cons x xs H=>simp[SV.idss,H]
mutual
theorem SV.conc_congr {β β':Nat->Loc}: ∀(s:SV),(∀i∈s.ids,β' i=β i)->s.conc β'=s.conc β
 | .val _,_=>by simp[SV.conc]
 | .ptr id e o,h=>by simp[SV.conc,addr,h id (by simp[SV.ids])]
 | .slc id e l,h=>by simp[SV.conc,addr,h id (by simp[SV.ids])]
 | .agg cs,h=>by simp[SV.conc,SV.concs_congr cs (by simpa [SV.ids] using h)]
 | .tup cs,h=>by simp[SV.conc,SV.concs_congr cs (by simpa [SV.ids] using h)]
 | .mp id,h=>by simp[SV.conc,h id (by simp[SV.ids])]
 | .yl id,h=>by simp[SV.conc,h id (by simp[SV.ids])]
 | .fn f a c,h=>by
   simp[SV.conc,SV.concs_congr a (λi hi=>h i (by simp[SV.ids,hi])),SV.concs_congr c (λi hi=>h i (by simp[SV.ids,hi]))]
theorem SV.concs_congr {β β':Nat->Loc}: ∀(l:List SV),(∀i∈SV.idss l,β' i=β i)->SV.concs β' l=SV.concs β l
 | [],_=>rfl
 |x::xs,h=>by
  simp[SV.concs,SV.conc_congr x (λi hi=>h i (by simp[SV.idss,hi])),SV.concs_congr xs (λi hi=>h i (by simp[SV.idss,hi]))]
end
def ofV:Value->SV
 | .agg cs=> .agg (cs.toList.map SV.val)
 | .func f a c=> .fn f (a.toList.map SV.val) (c.toList.map SV.val)
 |v=> .val v
abbrev _root_.zdK:=List Value
theorem uT (β:zdI) (l:zdK):SV.concs β (l.map SV.val)=l:=by
 induction l with
 |nil=>rfl
 |cons x xs H=>simp[SV.concs,SV.conc,H]
theorem aml (l:zdK):SV.idss (l.map SV.val)= []:=by
 induction l with
 |nil=>rfl
 |cons x xs H=>simp[SV.idss,SV.ids,H]
theorem rE (β:zdI) (v:Value):(ofV v).conc β=v:=by
 cases v<;>simp[ofV,SV.conc,uT]
theorem BX (v:Value):(ofV v).ids= []:=by
 cases v<;>simp[ofV,SV.ids,aml]
def SV.cells:SV->zdJ
 | .agg cs=>cs
 |v=> [v]
theorem SV.cells_conc (β:zdI) (s:SV) (h: ∀cs,s≠ .val (.agg cs)):(s.conc β).cells=(SV.concs β s.cells).toArray:=by
 cases s with
 |val v=>cases v<;>first|rfl|exact absurd rfl (h _)
 |_=>simp[SV.conc,SV.cells,Value.cells,SV.concs]
def SV.one:SV->Bool
 | .val v=>v.oneCell'
 | .agg _| .tup _=>false
 |_=>true
variable {s:SV}
theorem SV.one_conc (β:zdI) (h:s.one=true):(s.conc β).oneCell'=true:=by
 cases s<;>simp_all [SV.one,SV.conc,Value.oneCell']
structure LRec where
 fn:FuncId
 nt:Nat
 ps:Array Tmp
 assign:Code
 body:Code
inductive BK where
 |own|old|gone|mpL|mpI|mpB|itL|itK|dm|glb
 |lp (r:LRec)
def BK.map:BK->Bool
 | .mpL| .mpI| .mpB| .itL| .itK| .dm=>true
 | .lp _=>true
 |_=>false
def BK.fix:BK->Bool
 | .old| .glb=>true
 |_=>false
variable {k:BK}
theorem BK.fix_ng (h:k.fix=true):k≠ .gone:=by intro e;rw[e] at h;cases h
theorem BK.fix_nm (h:k.map=true): ¬k.fix=true:=by cases k<;>simp[BK.map,BK.fix] at h ⊢
def BK.it:BK->Bool
 | .itL| .itK=>true
 |_=>false
def BK.loop:BK->Bool
 | .dm=>true
 | .lp _=>true
 |_=>false
def BK.lst:BK->Bool
 | .mpL| .itL=>true
 | .lp _=>true
 |_=>false
structure Blk where
 n:Nat
 sz:Nat
 get:Nat->List SV
 kd:BK
 nn:Bool:=true
structure BlkOK (β:Nat->Loc) (id:Nat) (B:Blk) (w:World):Prop where
 sz:(β id).sz=B.sz
 lt:(β id).nil=false->(β id).blk<w.heap.size
 le:B.n<=(β id).cap
 len: ∀e,e<B.n->(B.get e).length=B.sz
 ex: ∀j,j<(β id).cap*B.sz->(w.cell? ⟨(β id).blk,(β id).off+j,none⟩).isSome=true
 fr:B.kd= .own-> ∀j,j<(β id).cap*B.sz->w.frozen? ⟨(β id).blk,(β id).off+j,none⟩=false
 val: ∀e,e<B.n-> ∀(o:Nat) (s:SV),(B.get e)[o]? =some s->w.cell? (addr β id e o)=some (s.conc β)
 nil:(β id).nil=true->(β id).cap=0
 nn:B.nn=true->(β id).nil=false
variable {β:zdI} {id:Nat} {B:Blk} {w:World}
theorem BlkOK.lt_cap (h:BlkOK β id B w) {j:Nat} (J:j<(β id).cap*B.sz):(β id).nil=false/\(β id).blk<w.heap.size:=by
 cases H:(β id).nil with
 |false=>exact⟨rfl,h.lt H⟩
 |true=>rw[h.nil H] at J;omega
variable {e:Nat}
theorem BlkOK.not_nil (h:BlkOK β id B w) (J:e<B.n):(β id).nil=false:=by
 cases H:(β id).nil with
 |false=>rfl
 |true=>have:=h.nil H;have:=h.le;omega
abbrev _root_.zdL:=Nat->Option Blk
def Live (bl:zdL) (s:SV):Prop:= ∀i∈s.ids,bl i≠none
def valF (bo:Bool) (z:Int):Value:=bif bo then .bool (z !=0) else .int .i64 z
def dS (bo:Bool):Nat->List (Nat×Int)->List MapEntry
 |_, []=> []
 |i,(k,v)::r=>{key:= .int .i64 k,val:=valF bo v,born:=i}::dS bo (i+1) r
def d9:List (Nat×Int)->Nat->Int
 | [],_=>0
 |(k,v)::r,j=>if k=j then v else d9 r j
def iG:List SV->Int
 | .val (.int _ z)::_=>z
 |_=>0
def su:List SV->Bool
 | .val (.bool b)::_=>b
 |_=>false
structure BD where
 write:FuncId
 str:FuncId
 tb:TypeId
structure Base where
 w:World
 S:Nat->Bool
 F:Nat->Bool:=λ_=>false
 hF: ∀b,F b=true->b<w.heap.size/\S b=false:=by intro _ h;cases h
 sd:Option BD×Option (Nat×ByteArray):=(none,none)
instance:Coe World Base:=⟨λw=>{w:=w,S:=λ_=>false}⟩
def Base.mine (W:Base) (b:Nat):Prop:=W.w.heap.size<=b\/W.S b=true
def Base.out (W:Base) (b:Nat):Prop:= ¬W.mine b/\W.F b=false
structure Pres (W:Base) (w:World):Prop where
 os:w.os=W.w.os
 tape:w.tape=W.w.tape
 output:w.output=W.w.output
 size:W.w.heap.size<=w.heap.size
 block: ∀k,k<W.w.heap.size->W.S k=false->w.heap[k]? =W.w.heap[k]?
variable {W:Base} {w':World}
theorem Pres.step (h:Pres W w) (H:Below w.heap.size w w'):Pres W w':=
 ⟨H.os.trans h.os,H.tape.trans h.tape,H.output.trans h.output,zac h.size H.size,λk J N=>(H.block k (zam J h.size)).trans (h.block k J N)⟩
variable {b:Nat}
theorem Pres.at (h:Pres W w) (H:W.mine b) (h1:w'.os=w.os) (h2:w'.tape=w.tape) (h3:w'.output=w.output) (h4:w'.heap.size=w.heap.size) (h5: ∀i,i≠b->w'.heap[i]? =w.heap[i]?):Pres W w':=
 ⟨h1.trans h.os,h2.trans h.tape,h3.trans h.output,by rw[h4];exact h.size,λk N J=>by
   rw[h5 k λe=> ?_]
   ·exact h.block k N J
   ·subst e;rcases H with H|H
    ·omega
    ·rw[J] at H;cases H⟩
theorem Pres.refl (w:World):Pres w w:=⟨rfl,rfl,rfl,za0 _,λ_ _ _=>rfl⟩
theorem Pres.self (W:Base):Pres W W.w:=⟨rfl,rfl,rfl,za0 _,λ_ _ _=>rfl⟩
theorem Pres.below {W:World} (h:Pres W w):Below W.heap.size W w:=⟨h.os,h.tape,h.output,h.size,λk H=>h.block k H rfl⟩
theorem Pres.of {W:World} (h:Below W.heap.size W w):Pres W w:=⟨h.os,h.tape,h.output,h.size,λk H _=>h.block k H⟩
def SubB (B W:Base):Prop:=Pres W B.w/\ ∀b,B.S b=true->W.mine b
theorem SubB.pres {B:Base} (h:SubB B W) (hp:Pres B w):Pres W w:=
 ⟨hp.os.trans h.1.os,hp.tape.trans h.1.tape,hp.output.trans h.1.output,zac h.1.size hp.size,λk N J=>by
   rw[hp.block k (zam N h.1.size) ?_,h.1.block k N J];cases Y:B.S k with
   |false=>rfl
   |true=>
    rcases h.2 k Y with H|H
    ·omega
    ·rw[J] at H;cases H⟩
theorem SubB.refl (B:Base):SubB B B:=⟨Pres.self B,λ_ h=> .inr h⟩
theorem SubB.mine {B:Base} (h:SubB B W) (H:B.mine b):W.mine b:=by
 rcases H with H|H
 ·exact .inl (zac h.1.size H)
 ·exact h.2 b H
theorem SubB.trans {C B:Base} (h:SubB C B) (k:SubB B W):SubB C W:=⟨k.pres h.1,λb H=>k.mine (h.2 b H)⟩
def stL:List SV->Option (LoopState×Option Code)
 | []=>some (.ready,none)
 | [.val (.bool true)]=>some (.busy,none)
 | [.val (.bool false)]=>some (.exhausted,none)
 | [.val (.int _ 0)]=>some (.done,some .ret)
 | [.val (.int _ 1), .val (.int _ i)]=>some (.done,some (.exit i.toNat))
 |_=>none
structure LoopIs (r:LRec) (x:LoopState×Option Code) (L:Loop):Prop where
 st:L.state=x.1
 pend:x.1= .exhausted\/L.pending=x.2
 fn:L.fn=r.fn
 ps:L.params=r.ps
 assign:L.assign=r.assign
 body:L.body=r.body
 size:L.tmps.size=r.nt
abbrev _root_.zdM:=Nat->List SV
def MapOK (β:zdI) (b:Nat) (w:World) (k:BK) (get:zdM):Prop:=match k with
 | .mpL=> ∃es:Array MapEntry,w.heap[b]? =some (.map es es.size)/\es.size<=64/\(∀e,e<es.size-> ∃k v,get e= [k,v]/\es[e]? =some {key:=k.conc β,val:=v.conc β,born:=e})/\ ∀e,es.size<=e->get e= []
 | .mpI=> ∃L,w.heap[b]? =some (.map (dS false 0 L).toArray L.length)/\ ∀k,iG (get k)=d9 L k
 | .mpB=> ∃L,w.heap[b]? =some (.map (dS true 0 L).toArray L.length)/\(∀k,su (get k)=(d9 L k !=0))/\(∀p∈L,p.2=1)/\(L.map (·.1)).Nodup
 | .itL=> ∃(m H c0 J:Nat) (seen:Array Nat) (es:Array MapEntry),w.heap[b]? =some (.mapIter (some m) H seen c0)/\w.heap[m]? =some (.map es J)/\(∀x∈es.toList,x.born<H)/\H<=c0/\H<=J/\es.size<=64/\
   (∀e,e<es.size-> ∃k v,get (e+1)= [.val (.bool (!seen.contains e)),k,v]/\es[e]? =some {key:=k.conc β,val:=v.conc β,born:=e})/\(∀e,es.size<=e->get (e+1)= [])/\
   (get 0= []\/ ∃(N:Array Nat) (j:Nat) (k v:SV),seen=N.push j/\c0=J/\get 0= [k,v]/\es[j]? =some {key:=k.conc β,val:=v.conc β,born:=j})
 | .itK=> ∃(m H c0:Nat) (seen:Array Nat) (L:List (Nat×Int)),w.heap[b]? =some (.mapIter (some m) H seen c0)/\w.heap[m]? =some (.map (dS true 0 L).toArray L.length)/\H=L.length/\H<=c0/\(∀p∈L,p.2=1)/\(L.map (·.1)).Nodup/\
   (∀k,su (get (k+1))=true↔ ∃i,(L.map (·.1))[i]? =some k/\seen.contains i=false)/\
   (get 0= []\/ ∃(N:Array Nat) (j k:Nat),seen=N.push j/\c0=L.length/\(L.map (·.1))[j]? =some k/\get 0= [.val (.int .i64 k), .val (.bool true)])
 | .dm=> ∃x,w.heap[b]? =some (.deferred x)/\(get 0= []->x=some [])
 | .lp r=> ∃(L:Loop) (x:LoopState×Option Code),w.heap[b]? =some (.loop L)/\stL (get 0)=some x/\LoopIs r x L/\ ∀t s,get (t+1)= [s]->L.tmps.getD t undef=s.conc β
 |_=>True
theorem BK.lst_map (h:k.lst=true):k.map=true:=by cases k<;>first|rfl|cases h
theorem BK.it_map (h:k.it=true):k.map=true:=by cases k<;>first|rfl|cases h
structure MapsOK (W0:Base) (bl:Nat->Option Blk) (β:Nat->Loc) (w:World):Prop where
 ok: ∀id B,bl id=some B->B.kd.map=true->B.n=0/\(β id).nil=false/\W0.mine (β id).blk/\MapOK β (β id).blk w B.kd B.get
 inj: ∀id id' B B',bl id=some B->bl id'=some B'->B.kd.map=true->B'.kd.map=true->(β id).blk=(β id').blk->id=id'
 live: ∀(id:Nat) (B:Blk) (e:Nat) (s:SV),bl id=some B->B.kd.lst=true->s∈B.get e->Live bl s
 off: ∀id B,bl id=some B->B.kd.it=true->(β id).off=0
variable {get:zdM}
theorem MapOK.heap (h:MapOK β b w k get) (H:k.map=true):(k.it=false/\ ∃es c,w.heap[b]? =some (.map es c))\/(k.it=true/\ ∃m s n c,w.heap[b]? =some (.mapIter m s n c))\/(k.it=false/\(∀j,w.cell? ⟨b,j,none⟩=none)/\ ∀es c,w.heap[b]? ≠some (.map es c)):=by
 cases k with
 |mpL=>obtain⟨es,h,_⟩:=h;exact .inl ⟨rfl,_,_,h⟩
 |mpI=>obtain⟨L,h,_⟩:=h;exact .inl ⟨rfl,_,_,h⟩
 |mpB=>obtain⟨L,h,_⟩:=h;exact .inl ⟨rfl,_,_,h⟩
 |itL=>obtain⟨_,_,_,_,_,_,h,_⟩:=h;exact .inr (.inl ⟨rfl,_,_,_,_,h⟩)
 |itK=>obtain⟨_,_,_,_,_,h,_⟩:=h;exact .inr (.inl ⟨rfl,_,_,_,_,h⟩)
 |dm=>obtain⟨x,h,_⟩:=h;exact .inr (.inr ⟨rfl,λj=>by simp[World.cell?,h],λ_ _ e=>by rw[h] at e;cases e⟩)
 |lp r=>obtain⟨L,x,h,_⟩:=h;exact .inr (.inr ⟨rfl,λj=>by simp[World.cell?,h],λ_ _ e=>by rw[h] at e;cases e⟩)
 |_=>cases H
theorem MapOK.cellN (h:MapOK β b w k get) (J:k.map=true) (j:Nat):w.cell? ⟨b,j,none⟩=none:=by
 rcases h.heap J with ⟨_,es,c,H⟩|⟨_,m,s,n,c,H⟩|⟨_,h,_⟩
 ·simp[World.cell?,H]
 ·simp[World.cell?,H]
 ·exact h j
def GetEq (k:BK) (get get':zdM):Prop:=match k with
 | .mpI=> ∀e,iG (get e)=iG (get' e)
 | .mpB=> ∀e,su (get e)=su (get' e)
 | .itK=>(∀e,su (get (e+1))=su (get' (e+1)))/\(get' 0= []\/get' 0=get 0)
 | .itL=>(∀e,get (e+1)=get' (e+1))/\(get' 0= []\/get' 0=get 0)
 |_=> ∀e,get e=get' e
theorem GetEq.refl (k:BK) (get:zdM):GetEq k get get:=by cases k<;>first|exact λ_=>rfl|exact⟨λ_=>rfl, .inr rfl⟩
variable {β':zdI} {get':zdM}
theorem MapOK.to (h:MapOK β b w k get) (hw:w'.heap[b]? =w.heap[b]?) (hg:GetEq k get get')
 (hi:k.it=true-> ∀(m:Nat) es c,w.heap[m]? =some (Obj.map es c)->w'.heap[m]? =w.heap[m]?) (N:k.lst=true-> ∀e s,s∈get' e->s.conc β'=s.conc β):MapOK β' b w' k get':=by
 cases k with
 |mpL=>
  obtain⟨es,h1,h2,h3,h4⟩:=h;refine⟨es,by rw[hw];exact h1,h2,λe Y=> ?_,λe Y=>by rw[<-hg];exact h4 e Y⟩;obtain⟨k,v,k1,k2⟩:=h3 e Y;exact⟨k,v,by rw[<-hg];exact k1,by rw[N rfl e k (by rw[<-hg];simp[k1]),N rfl e v (by rw[<-hg];simp[k1])];exact k2⟩
 |mpI=>obtain⟨L,h1,h2⟩:=h;exact⟨L,by rw[hw];exact h1,λk=>by rw[<-hg];exact h2 k⟩
 |mpB=>obtain⟨L,h1,h2,h3⟩:=h;exact⟨L,by rw[hw];exact h1,λk=>by rw[<-hg];exact h2 k,h3⟩
 |itL=>
  obtain⟨m,H,c0,J,seen,es,h1,h2,h3,h4,h5,h6,h7,h8,h9⟩:=h;refine⟨m,H,c0,J,seen,es,by rw[hw];exact h1,by rw[hi rfl _ _ _ h2];exact h2,h3,h4,h5,h6,λe Y=> ?_,λe Y=>by rw[<-hg.1];exact h8 e Y, ?_⟩
  ·obtain⟨k,v,k1,k2⟩:=h7 e Y;exact⟨k,v,by rw[<-hg.1];exact k1,by rw[N rfl (e+1) k (by rw[<-hg.1];simp[k1]),N rfl (e+1) v (by rw[<-hg.1];simp[k1])];exact k2⟩
  ·rcases hg.2 with h0|h0
   ·exact .inl h0
   ·rcases h9 with h9|⟨s',j,k,v,k1,k2,k3,k4⟩
    ·exact .inl (by rw[h0];exact h9)
    ·exact .inr ⟨s',j,k,v,k1,k2,by rw[h0];exact k3,by rw[N rfl 0 k (by rw[h0];simp[k3]),N rfl 0 v (by rw[h0];simp[k3])];exact k4⟩
 |itK=>
  obtain⟨m,H,c0,seen,L,h1,h2,h3,h4,h5,h6,h7,h8⟩:=h;refine⟨m,H,c0,seen,L,by rw[hw];exact h1,by rw[hi rfl _ _ _ h2];exact h2,h3,h4,h5,h6,λk=>by rw[<-hg.1];exact h7 k, ?_⟩;rcases hg.2 with hg|hg
  ·exact .inl hg
  ·rw[hg];exact h8
 |dm=>obtain⟨x,h1,h2⟩:=h;exact⟨x,hw.trans h1,λe=>h2 (by rw[hg];exact e)⟩
 |lp r=>
  obtain⟨L,x,h1,h2,h3,h4⟩:=h;exact⟨L,x,hw.trans h1,by rw[<-hg];exact h2,h3,λt s hs=>(h4 t s (by rw[hg];exact hs)).trans (N rfl (t+1) s (by simp[hs])).symm⟩
 |_=>trivial
variable {W0:Base} {bl:zdL}
theorem MapsOK.to {bl':zdL} (h:MapsOK W0 bl β w)
 (J: ∀id B,bl' id=some B->B.kd.map=true->bl id=some B/\β' id=β id/\w'.heap[(β id).blk]? =w.heap[(β id).blk]?)
 (hl: ∀s,Live bl s->Live bl' s/\s.conc β'=s.conc β) (hi: ∀(m:Nat) es c,w.heap[m]? =some (Obj.map es c)->w'.heap[m]? =w.heap[m]?):MapsOK W0 bl' β' w' where
 ok id B hB N:=by
  obtain⟨h1,h2,h3⟩:=J id B hB N;obtain⟨k1,k2,k3,k4⟩:=h.ok id B h1 N;rw[h2];exact⟨k1,k2,k3,k4.to h3 (GetEq.refl _ _) (λ_=>hi) λH e s hs=>(hl s (h.live id B e s h1 H hs)).2⟩
 inj id id' B B' hB a0 N Y he:=by
  obtain⟨h1,h2,_⟩:=J id B hB N;obtain⟨k1,k2,_⟩:=J id' B' a0 Y;rw[h2,k2] at he;exact h.inj id id' B B' h1 k1 N Y he
 live id B e s hB H hs:=(hl s (h.live id B e s (J id B hB (BK.lst_map H)).1 H hs)).1
 off id B hB H:=by
  obtain⟨h1,h2,_⟩:=J id B hB (BK.it_map H);rw[h2];exact h.off id B h1 H
structure BC (W0:Base) (bl:Nat->Option Blk) (β:Nat->Loc) (w:World):Prop where
 below:Pres W0 w
 blk: ∀id B,bl id=some B->B.kd≠ .gone->BlkOK β id B w
 own: ∀id B,bl id=some B->B.kd= .own->(β id).nil=false->W0.mine (β id).blk
 old: ∀id B,bl id=some B->B.kd.fix=true->(β id).nil=false->W0.out (β id).blk/\(B.kd= .glb->(β id).blk=id/\(β id).off=0)
 inj: ∀id id' B B',bl id=some B->bl id'=some B'->B.kd= .own->B'.kd= .own->(β id).nil=false->(β id').nil=false->(β id).blk=(β id').blk->id=id'
 live: ∀(id:Nat) (B:Blk) (e o:Nat) (s:SV),bl id=some B->B.kd≠ .gone->e<B.n->(B.get e)[o]? =some s->Live bl s
 maps:MapsOK W0 bl β w
def upd (bl:zdL) (id:Nat) (B:Blk):zdL:=λi=>bif Nat.beq i id then some B else bl i
def gp (β:zdI) (id:Nat) (l:Loc):zdI:=λi=>bif Nat.beq i id then l else β i
theorem BlkOK.lt_e (h:BlkOK β id B w) (H:e<B.n):(β id).blk<w.heap.size:=h.lt (h.not_nil H)
theorem az (bl:zdL) (id:Nat) (B:Blk):upd bl id B id=some B:=by simp[upd]
variable {i:Nat}
theorem ak (h:i≠id):upd bl id B i=bl i:=by
 have:Nat.beq i id=false:=by
  cases hh:Nat.beq i id with
  |false=>rfl
  |true=>exact absurd (zab hh) h
 simp[upd,this]
theorem aA (β:zdI) (id:Nat) (l:Loc):gp β id l id=l:=by simp[gp]
variable {l:Loc}
theorem aC (h:i≠id):gp β id l i=β i:=by
 have:Nat.beq i id=false:=by
  cases hh:Nat.beq i id with
  |false=>rfl
  |true=>exact absurd (zab hh) h
 simp[gp,this]
theorem BY (h:bl i≠none):upd bl id B i≠none:=by
 by_cases hi:i=id
 ·subst hi;rw[az];simp
 ·rw[ak hi];exact h
theorem Live.upd (h:Live bl s):Live (upd bl id B) s:=λi hi=>BY (h i hi)
theorem Live.conc (h:Live bl s) (hid:bl id=none):s.conc (gp β id l)=s.conc β:=
 SV.conc_congr s λi hi=>aC λe=>h i hi (e▸hid)
variable {cs:zdJ}
theorem Live.concs (h: ∀s∈cs,Live bl s) (hid:bl id=none):SV.concs (gp β id l) cs=SV.concs β cs:=
 SV.concs_congr cs λi hi=>aC λe=>by
  obtain⟨s,H,hi⟩:=SV.mem_idss.1 hi;exact h s H i hi (e▸hid)
theorem BC.step (h:BC W0 bl β w) (H:Below w.heap.size w w'):BC W0 bl β w' where
 below:=h.below.step H
 blk id B hB hg:=by
  have k:=h.blk id B hB hg
  exact⟨k.sz,λh=>zam (k.lt h) H.size,k.le,k.len,λj J=>by rw[H.cell (p:=⟨_,_,none⟩) (k.lt_cap J).2];exact k.ex j J,
   λhr j J=>by rw[H.frozen (p:=⟨_,_,none⟩) (k.lt_cap J).2];exact k.fr hr j J,λe he o s Y=>by rw[H.cell (p:=addr β id e o) (k.lt_e he)];exact k.val e he o s Y,k.nil,k.nn⟩
 own:=h.own
 old:=h.old
 inj:=h.inj
 live:=h.live
 maps:=h.maps.to (λid B hB N=>⟨hB,rfl,H.block _ ((h.blk id B hB (by intro e;rw[e] at N;cases N)).lt (h.maps.ok id B hB N).2.1)⟩) (λs Y=>⟨Y,rfl⟩) λm es c N=>H.block m (zaq.1 N).1
variable {L:Loc}
theorem BC.allocG (h:BC W0 bl β w) (hid:bl id=none)
 (w0:B.kd= .own) (o0: ∀e,e<B.n->(B.get e).length=B.sz) (e0: ∀(e o:Nat) (s:SV),e<B.n->(B.get e)[o]? =some s->Live bl s)
 (hb:Below w.heap.size w w') (x0:L.sz=B.sz) (j0:W0.mine L.blk) (i0: ∀i C,bl i=some C->C.kd= .own->(β i).nil=false->(β i).blk≠L.blk) (C0:L.blk<w'.heap.size) (l0:B.n<=L.cap) (u0:L.nil=true->L.cap=0) (E0:B.nn=true->L.nil=false)
 (z0: ∀j,j<L.cap*B.sz->(w'.cell? ⟨L.blk,L.off+j,none⟩).isSome=true) (B0: ∀j,j<L.cap*B.sz->w'.frozen? ⟨L.blk,L.off+j,none⟩=false)
 (y0: ∀(e o:Nat) (s:SV),e<B.n->(B.get e)[o]? =some s->w'.cell? ⟨L.blk,L.off+e*B.sz+o,none⟩=some (s.conc β)):
 BC W0 (upd bl id B) (gp β id L) w':=by
 have k:=h.step hb
 have q0:MapsOK W0 (upd bl id B) (gp β id L) w':=k.maps.to (λi C H hm=>by
  have hi:i≠id:=by
   rintro rfl;rw[az] at H;obtain rfl:B=C:=by simpa using H
   rw[w0] at hm;cases hm
  rw[ak hi] at H
  exact⟨H,aC hi,rfl⟩) (λs hs=>⟨hs.upd,hs.conc hid⟩) λ_ _ _ _=>rfl
 refine⟨k.below, ?_, ?_, ?_, ?_, ?_,q0⟩
 ·intro i C H n0;by_cases hi:i=id
  ·subst hi;rw[az] at H;obtain rfl:B=C:=by simpa using H
   refine⟨by rw[aA];exact x0,λ_=>by rw[aA];exact C0,by rw[aA];exact l0,o0,by rw[aA];exact z0,λ_=>by rw[aA];exact B0, ?_,by rw[aA];exact u0,by rw[aA];exact E0⟩;intro e he o s hs;rw[show addr (gp β i L) i e o=⟨L.blk,L.off+e*B.sz+o,none⟩ by simp[addr,aA,x0]];rw[(e0 e o s he hs).conc hid];exact y0 e o s he hs
  ·rw[ak hi] at H;have q:=k.blk i C H n0;have e1:gp β id L i=β i:=aC hi;refine⟨by rw[e1];exact q.sz,by rw[e1];exact q.lt,by rw[e1];exact q.le,q.len,by rw[e1];exact q.ex,by rw[e1];exact q.fr, ?_,by rw[e1];exact q.nil,by rw[e1];exact q.nn⟩;intro e he o s hs;rw[(h.live i C e o s H n0 he hs).conc hid];have:=q.val e he o s hs;simpa [addr,e1] using this
 ·intro i C H hk J;by_cases hi:i=id
  ·subst hi;rw[aA];exact j0
  ·rw[ak hi] at H;rw[aC hi] at J ⊢;exact h.own i C H hk J
 ·intro i C H hk J;by_cases hi:i=id
  ·subst hi;rw[az] at H;obtain rfl:B=C:=by simpa using H
   rw[w0] at hk;cases hk
  ·rw[ak hi] at H;rw[aC hi] at J ⊢;exact h.old i C H hk J
 ·intro i i' C C' H g0 hr v0 J Y a0;by_cases hi:i=id<;>by_cases N:i'=id
  ·rw[hi,N]
  ·exfalso;subst hi;rw[ak N] at g0;rw[aA,aC N] at a0;rw[aC N] at Y;exact i0 i' C' g0 v0 Y a0.symm
  ·exfalso;subst N;rw[ak hi] at H;rw[aA,aC hi] at a0;rw[aC hi] at J;exact i0 i C H hr J a0
  ·rw[ak hi] at H;rw[ak N] at g0;rw[aC hi,aC N] at a0;rw[aC hi] at J;rw[aC N] at Y;exact h.inj i i' C C' H g0 hr v0 J Y a0
 ·intro i C e o s H hg he hs;by_cases hi:i=id
  ·subst hi;rw[az] at H;obtain rfl:B=C:=by simpa using H
   exact(e0 e o s he hs).upd
  ·rw[ak hi] at H;exact(h.live i C e o s H hg he hs).upd
theorem BC.allocW (h:BC W0 bl β w) (hid:bl id=none)
 (o0:B.kd= .own) (Y: ∀e,e<B.n->(B.get e).length=B.sz) (H: ∀(e o:Nat) (s:SV),e<B.n->(B.get e)[o]? =some s->Live bl s)
 (hb:Below w.heap.size w w') (q0:L.sz=B.sz) (J:w.heap.size<=L.blk) (j0:L.blk<w'.heap.size) (N:B.n<=L.cap) (a0:L.nil=true->L.cap=0) (n0:B.nn=true->L.nil=false)
 (g0: ∀j,j<L.cap*B.sz->(w'.cell? ⟨L.blk,L.off+j,none⟩).isSome=true) (i0: ∀j,j<L.cap*B.sz->w'.frozen? ⟨L.blk,L.off+j,none⟩=false)
 (e0: ∀(e o:Nat) (s:SV),e<B.n->(B.get e)[o]? =some s->w'.cell? ⟨L.blk,L.off+e*B.sz+o,none⟩=some (s.conc β)):
 BC W0 (upd bl id B) (gp β id L) w'  :=
 h.allocG hid o0 Y H hb q0 (.inl (zac h.below.size J)) (λi C hC hr l0 e=>by
  have:=(h.blk i C hC (by rw[hr];simp)).lt l0
  omega) j0 N a0 n0 g0 i0 e0
theorem BC.alloc (h:BC W0 bl β w) (hid:bl id=none)
 (e0:B.kd= .own) (N: ∀e,e<B.n->(B.get e).length=B.sz) (H: ∀(e o:Nat) (s:SV),e<B.n->(B.get e)[o]? =some s->Live bl s)
 (cs:zdJ) (Y:cs.length=B.n*B.sz) (J: ∀(e o:Nat) (s:SV),e<B.n->(B.get e)[o]? =some s->cs[e*B.sz+o]? =some s) (ty:TypeId):
 BC W0 (upd bl id B) (gp β id ⟨w.heap.size,0,B.sz,B.n,false⟩) (w.alloc (.cells (SV.concs β cs).toArray ty)):=by
 have a0:(SV.concs β cs).length=B.n*B.sz:=by rw[SV.concs_eq];simp[Y]
 refine h.allocW hid e0 N H ((zdC _ _).alloc (za0 _) _) rfl (za0 _) (by simp) (za0 _) (λh=>by cases h) (λ_=>rfl) ?_ ?_ ?_
 ·intro j hj;simp only[za7];rw[World.cell?_alloc_new];simp[a0];simpa using hj
 ·intro j hj;simp only[za7];exact World.frozen?_alloc_new _ _ _ _
 ·intro e o s he hs;simp only[za7];rw[World.cell?_alloc_new];have:=J e o s he hs;simp[SV.concs_eq,this]
theorem J6 (bl:zdL) (i:Nat) (X Y:Blk):upd (upd bl i X) i Y=upd bl i Y:=by
 funext j
 by_cases h:j=i
 ·subst h;rw[az,az]
 ·rw[ak h,ak h,ak h]
variable {X:Blk}
theorem BC.kill (h:BC W0 bl β w) (i:Nat) (hX:X.kd= .gone):BC W0 (upd bl i X) β w:=by
 have F: ∀j C,upd bl i X j=some C->C.kd≠ .gone->j≠i/\bl j=some C:=by
  intro j C H hg;by_cases h1:j=i
  ·subst h1;rw[az] at H;simp only[za1] at H;rw[<-H] at hg;exact absurd hX hg
  ·rw[ak h1] at H;exact⟨h1,H⟩
 refine⟨h.below,λj C H hg=>h.blk j C (F j C H hg).2 hg,λj C H J=>h.own j C (F j C H (by rw[J];simp)).2 J,λj C H J=>h.old j C (F j C H (BK.fix_ng J)).2 J,
  λj k C D H hD N Y=>h.inj j k C D (F j C H (by rw[N];simp)).2 (F k D hD (by rw[Y];simp)).2 N Y,λj C e o s H hg he hs=>(h.live j C e o s (F j C H hg).2 hg he hs).upd,
  h.maps.to (λj C H hm=>⟨(F j C H (by intro e;rw[e] at hm;cases hm)).2,rfl,rfl⟩) (λs hs=>⟨hs.upd,rfl⟩) λ_ _ _ _=>rfl⟩
theorem BC.reborn (h:BC W0 bl β w) (hB:bl i=some B) (e0:B.kd= .own) (hid:bl id=none) (hX:X.kd= .gone):
 BC W0 (upd (upd bl i X) id B) (gp β id (β i)) w:=by
 have n0:i≠id:=λe=>by rw[e,hid] at hB;cases hB
 have j0:B.kd≠ .gone:=by rw[e0];simp
 have F: ∀j C,upd (upd bl i X) id B j=some C->C.kd≠ .gone->(j=id/\C=B)\/(j≠id/\j≠i/\bl j=some C):=by
  intro j C H hg;by_cases h1:j=id
  ·subst h1;rw[az] at H;exact .inl ⟨rfl,by simpa using H.symm⟩
  ·rw[ak h1] at H;by_cases h2:j=i
   ·subst h2;rw[az] at H;simp only[za1] at H;rw[<-H] at hg;exact absurd hX hg
   ·rw[ak h2] at H;exact .inr ⟨h1,h2,H⟩
 have hl: ∀s,Live bl s->Live (upd (upd bl i X) id B) s:=λs hs=>hs.upd.upd
 have l0:MapsOK W0 (upd (upd bl i X) id B) (gp β id (β i)) w:=h.maps.to (λj C H hm=>by
  rcases F j C H (by intro e;rw[e] at hm;cases hm) with ⟨_,rfl⟩|⟨h1,_,h3⟩
  ·rw[e0] at hm;cases hm
  ·exact⟨h3,aC h1,rfl⟩) (λs hs=>⟨hl s hs,hs.conc hid⟩) λ_ _ _ _=>rfl
 refine⟨h.below, ?_, ?_, ?_, ?_, ?_,l0⟩
 ·intro j C H hg;rcases F j C H hg with ⟨rfl,rfl⟩|⟨h1,h2,h3⟩
  ·have q:=h.blk i C hB j0;have J:gp β j (β i) j=β i:=aA _ _ _;refine⟨by rw[J];exact q.sz,by rw[J];exact q.lt,by rw[J];exact q.le,q.len,by rw[J];exact q.ex,by rw[J];exact q.fr, ?_,by rw[J];exact q.nil,by rw[J];exact q.nn⟩;intro e he o s hs;rw[(h.live i C e o s hB j0 he hs).conc hid];have:=q.val e he o s hs;simpa [addr,J] using this
  ·have q:=h.blk j C h3 hg;have J:gp β id (β i) j=β j:=aC h1;refine⟨by rw[J];exact q.sz,by rw[J];exact q.lt,by rw[J];exact q.le,q.len,by rw[J];exact q.ex,by rw[J];exact q.fr, ?_,by rw[J];exact q.nil,by rw[J];exact q.nn⟩;intro e he o s hs;rw[(h.live j C e o s h3 hg he hs).conc hid];have:=q.val e he o s hs;simpa [addr,J] using this
 ·intro j C H hk N;rcases F j C H (by rw[hk];simp) with ⟨rfl,rfl⟩|⟨h1,h2,h3⟩
  ·rw[aA] at N ⊢;exact h.own i _ hB e0 N
  ·rw[aC h1] at N ⊢;exact h.own j C h3 hk N
 ·intro j C H hk N;rcases F j C H (BK.fix_ng hk) with ⟨rfl,rfl⟩|⟨h1,h2,h3⟩
  ·rw[e0] at hk;cases hk
  ·rw[aC h1] at N ⊢;exact h.old j C h3 hk N
 ·intro j k C D H hD g0 i0 N a0 Y;rcases F j C H (by rw[g0];simp) with ⟨rfl,rfl⟩|⟨h1,h2,h3⟩<;>rcases F k D hD (by rw[i0];simp) with ⟨rfl,rfl⟩|⟨g1,g2,g3⟩
  ·rfl
  ·rw[aA,aC g1] at Y;rw[aA] at N;rw[aC g1] at a0;exact absurd (h.inj i k _ _ hB g3 e0 i0 N a0 Y).symm g2
  ·rw[aA,aC h1] at Y;rw[aA] at a0;rw[aC h1] at N;exact absurd (h.inj j i _ _ h3 hB g0 e0 N a0 Y) h2
  ·rw[aC h1,aC g1] at Y;rw[aC h1] at N;rw[aC g1] at a0;exact h.inj j k _ _ h3 g3 g0 i0 N a0 Y
 ·intro j C e o s H hg he hs;rcases F j C H hg with ⟨rfl,rfl⟩|⟨h1,h2,h3⟩
  ·exact hl s (h.live i _ e o s hB j0 he hs)
  ·exact hl s (h.live j C e o s h3 hg he hs)
def gZ (l:zdJ) (o:Nat) (cs:zdJ):zdJ:=l.take o++cs++l.drop (o+cs.length)
variable {o:Nat}
theorem jd {l:zdJ} (h:o+cs.length<=l.length):(gZ l o cs).length=l.length:=by
 simp[gZ];omega
theorem jR {l:zdJ} (h:o+cs.length<=l.length) (j:Nat):(gZ l o cs)[j]? =if o<=j/\j<o+cs.length then cs[j - o]? else l[j]? :=by
 unfold gZ;by_cases h1:j<o
 ·rw[if_neg (by omega),za5,zbB (by simp;omega),zcb h1]
 ·by_cases h2:j<o+cs.length
  ·rw[if_pos (by omega),zbB (by simp;omega),zbX (by simp;omega)]
   congr 1
   simp;omega
  ·rw[if_neg (by omega),zbX (by simp;omega),zcx]
   congr 1
   simp;omega
def Blk.put (B:Blk) (e o:Nat) (cs:zdJ):Blk:={B with get:=λi=>bif Nat.beq i e then gZ (B.get i) o cs else B.get i}
theorem Blk.put_get (B:Blk) (e o:Nat) (cs:zdJ) (i:Nat):(B.put e o cs).get i=if i=e then gZ (B.get i) o cs else B.get i:=by
 by_cases h:i=e
 ·subst h;simp[Blk.put]
 ·have:Nat.beq i e=false:=by
   cases hh:Nat.beq i e with
   |false=>rfl
   |true=>exact absurd (zab hh) h
  simp[Blk.put,this,h]
theorem jS {sz n:Nat} (H:e<n) (J:o<sz):e*sz+o<n*sz:=by
 have:(e+1)*sz<=n*sz:=zbl _ H;rw[zaG] at this;omega
theorem kN: ∀(vs:zdK) (b k:Nat) (w:World),(w.setCells b k vs).heap.size=w.heap.size/\(∀i,i≠b->(w.setCells b k vs).heap[i]? =w.heap[i]?)/\(w.setCells b k vs).os=w.os/\(w.setCells b k vs).tape=w.tape/\(w.setCells b k vs).output=w.output
 | [],b,k,w=>⟨rfl,λ_ _=>rfl,rfl,rfl,rfl⟩
 |v::vs,b,k,w=>by
  rw[World.setCells];obtain⟨h1,h2,h3,h4,h5⟩:=kN vs b (k+1) (w.setCell ⟨b,k,none⟩ v);exact⟨by rw[h1];simp,λi hi=>by rw[h2 i hi,Below.heap_setCell _ _ _ _ hi],h3,h4,h5⟩
theorem BC.writeG (h:BC W0 bl β w) (hB:bl id=some B) (n0:B.kd= .own)
 {k:Nat} {vs:zdK} (hk:k+vs.length<=(β id).cap*B.sz) {B':Blk} (e1:B'.sz=B.sz) (e2:B'.kd= .own) (e3:B'.n<=(β id).cap) (e4:B'.nn=true->(β id).nil=false)
 (o0: ∀e,e<B'.n->(B'.get e).length=B.sz) (y0: ∀(e o:Nat) (s:SV),e<B'.n->(B'.get e)[o]? =some s->Live bl s)
 (K0: ∀(e o:Nat) (s:SV),e<B'.n->(B'.get e)[o]? =some s->(k<=e*B.sz+o/\e*B.sz+o<k+vs.length/\vs[e*B.sz+o - k]? =some (s.conc β))\/((e*B.sz+o<k\/k+vs.length<=e*B.sz+o)/\e<B.n/\(B.get e)[o]? =some s)):
 BC W0 (upd bl id B') β (w.setCells (β id).blk ((β id).off+k) vs):=by
 have T0:B.kd≠ .gone:=by rw[n0];simp
 have q:=h.blk id B hB T0;cases e0:(β id).nil with
 |true=>
  have hc:=q.nil e0;rw[hc] at hk e3;have hv:vs= []:=zau (by omega);subst hv;have Z0:B.n=0:=by have:=q.le;omega
  have Q0:B'.n=0:=by omega
  refine⟨h.below, ?_, ?_, ?_, ?_, ?_,h.maps.to (λi C H hm=>by
   have hi:i≠id:=by
    rintro rfl;rw[az] at H;obtain rfl:B'=C:=by simpa using H
    rw[e2] at hm;cases hm
   rw[ak hi] at H
   exact⟨H,rfl,rfl⟩) (λs hs=>⟨hs.upd,rfl⟩) λ_ _ _ _=>rfl⟩
  ·intro i C H hg;by_cases hi:i=id
   ·subst hi;rw[az] at H;obtain rfl:B'=C:=by simpa using H
    exact⟨by rw[e1];exact q.sz,q.lt,by omega,by rw[e1];exact o0,by rw[e1];exact q.ex,λ_=>by rw[e1];exact q.fr n0,λe he=>by omega,q.nil,λhh=>(by rw[e4 hh] at e0;cases e0)⟩
   ·rw[ak hi] at H;exact h.blk i C H hg
  ·intro i C H x0 i0;by_cases hi:i=id
   ·subst hi;rw[e0] at i0;cases i0
   ·rw[ak hi] at H;exact h.own i C H x0 i0
  ·intro i C H x0 i0;by_cases hi:i=id
   ·subst hi;rw[e0] at i0;cases i0
   ·rw[ak hi] at H;exact h.old i C H x0 i0
  ·intro i j C D H hD N0 O0 a0 w0 g0;have f: ∀i,(β i).nil=false->i≠id:=λi hi he=>by rw[he,e0] at hi;cases hi
   rw[ak (f i a0)] at H;rw[ak (f j w0)] at hD;exact h.inj i j C D H hD N0 O0 a0 w0 g0
  ·intro i C e o s H hg he hs;by_cases hi:i=id
   ·subst hi;rw[az] at H;obtain rfl:B'=C:=by simpa using H
    omega
   ·rw[ak hi] at H;exact(h.live i C e o s H hg he hs).upd
 |false=>
 have j0:=h.own id B hB n0 e0;obtain⟨N,hblock,l0⟩:=kN vs (β id).blk ((β id).off+k) w;have Y: ∀j,j<vs.length->(w.cell? ⟨(β id).blk,(β id).off+k+j,none⟩).isSome=true:=λj J=>by
  have:=q.ex (k+j) (by omega);rwa[show (β id).off+k+j=(β id).off+(k+j) by omega]
 have Y0:Below (β id).blk w (w.setCells (β id).blk ((β id).off+k) vs):=
  ⟨l0.1,l0.2.1,l0.2.2,by rw[N];exact za0 _,λk hk=>hblock _ (by omega)⟩
 have H0:MapsOK W0 (upd bl id B') β (w.setCells (β id).blk ((β id).off+k) (vs)):=h.maps.to (λi C H hm=>by
  have hi:i≠id:=by
   rintro rfl;rw[az] at H;obtain rfl:B'=C:=by simpa using H
   rw[show (B').kd= .own from e2] at hm;cases hm
  rw[ak hi] at H;refine⟨H,rfl, ?_⟩;have u0:=λj=>(h.maps.ok i C H hm).2.2.2.cellN hm j;by_cases hb:(β i).blk=(β id).blk
  ·rw[hb] at u0;cases B0:(vs) with
   |nil=>rfl
   |cons v V0=>
    have:=Y 0 (by rw[B0];simp);rw[u0] at this;cases this
  ·exact hblock _ hb) (λs hs=>⟨hs.upd,rfl⟩) λm es c P0=>by
  by_cases hb:m=(β id).blk
  ·subst hb;cases B0:vs with
   |nil=>rfl
   |cons v V0=>
    have:=Y 0 (by rw[B0];simp);simp[World.cell?,P0] at this
  ·exact hblock _ hb
 refine⟨h.below.at j0 l0.1 l0.2.1 l0.2.2 N hblock, ?_, ?_, ?_, ?_, ?_,H0⟩
 ·intro i C H E0;by_cases hi:i=id
  ·subst hi;rw[az] at H;obtain rfl:B'=C:=by simpa using H
   refine⟨by rw[e1];exact q.sz,by rw[N];exact q.lt,e3,by rw[e1];exact o0, ?_, ?_, ?_,q.nil,e4⟩
   ·intro j J;rw[e1] at J;by_cases a1:k<=j/\j<k+vs.length
    ·have:=World.cell?_setCells_in (β i).blk vs ((β i).off+k) w Y (j - k) (by omega);rw[show (β i).off+k+(j - k)=(β i).off+j by omega] at this;rw[this];rfl
    ·rw[World.cell?_setCells_out _ _ _ _ _ (λ_ _=>by simp only[];omega)];exact q.ex j J
   ·intro hr j J;rw[e1] at J;rw[World.frozen?_setCells];exact q.fr n0 j J
   ·intro e he o s hs;have ho:o<B.sz:=by
     rcases zah o B.sz with h'|h'
     ·exact h'
     ·rw[zad (by rw[o0 e he];exact h')] at hs;cases hs
    rcases K0 e o s he hs with ⟨h1,h2,h3⟩|⟨h1,h2,h3⟩
    ·have:=World.cell?_setCells_in (β i).blk vs ((β i).off+k) w Y (e*B.sz+o - k) (by omega);rw[show (β i).off+k+(e*B.sz+o - k)=(β i).off+e*(β i).sz+o by rw[q.sz];omega] at this;unfold addr;rw[this];rw[zaa (by omega)] at h3;exact h3
    ·rw[World.cell?_setCells_out _ _ _ _ _ (λ_ _=>by
      simp only[addr];rw[q.sz]
      omega)]
     exact q.val e h2 o s h3
  ·rw[ak hi] at H;have p:=h.blk i C H E0;by_cases hm:C.kd.map=true
   ·have u0:=λj=>(h.maps.ok i C H hm).2.2.2.cellN hm j;have no: ∀j,¬j<(β i).cap*C.sz:=λj J=>by have:=p.ex j J;rw[u0] at this;cases this
    have hn:=(h.maps.ok i C H hm).1;exact⟨p.sz,by rw[N];exact p.lt,p.le,p.len,λj J=>absurd J (no j),λ_ j J=>absurd J (no j),λe he=>by omega,p.nil,p.nn⟩
   cases q0:(β i).nil with
   |true=>
    have hc:=p.nil q0;have Q0:C.n=0:=by have:=p.le;omega
    exact⟨p.sz,λh'=>absurd (q0.symm.trans h') (by decide),p.le,p.len,λj J=>by rw[hc] at J;omega,λ_ j J=>by rw[hc] at J;omega,λe he=>by omega,p.nil,p.nn⟩
   |false=>
   have R0:(β i).blk≠(β id).blk:=by
    intro g0;cases hr:C.kd with
    |gone=>exact E0 hr
    |old=>exact absurd (g0▸j0) (h.old i C H (by rw[hr];rfl) q0).1.1
    |glb=>exact absurd (g0▸j0) (h.old i C H (by rw[hr];rfl) q0).1.1
    |own=>exact hi (h.inj i id C B H hB hr n0 q0 e0 g0)
    |_=>rw[hr] at hm;exact hm rfl
   have C0: ∀j,(w.setCells (β id).blk ((β id).off+k) vs).cell? ⟨(β i).blk,j,none⟩=w.cell? ⟨(β i).blk,j,none⟩:=λj=>
    World.cell?_setCells_out _ _ _ _ _ (λh _=>absurd h R0)
   refine⟨p.sz,by rw[N];exact p.lt,p.le,p.len,λj J=>by rw[C0];exact p.ex j J,λhr j J=>by rw[World.frozen?_setCells];exact p.fr hr j J,λe' v0 o' s hs=> ?_,p.nil,p.nn⟩;unfold addr;rw[C0];exact p.val e' v0 o' s hs
 ·intro i C H hk a0;by_cases hi:i=id
  ·subst hi;exact j0
  ·rw[ak hi] at H;exact h.own i C H hk a0
 ·intro i C H hk a0;by_cases hi:i=id
  ·subst hi;rw[az] at H;obtain rfl:B'=C:=by simpa using H
   rw[e2] at hk;cases hk
  ·rw[ak hi] at H;exact h.old i C H hk a0
 ·intro i i' C C' H L0 hr U0 a0 w0 g0;have f: ∀j D,upd bl id B' j=some D->D.kd= .own-> ∃D',bl j=some D'/\D'.kd= .own:=by
   intro j D hD z0;by_cases J:j=id
   ·subst J;exact⟨B,hB,n0⟩
   ·rw[ak J] at hD;exact⟨D,hD,z0⟩
  obtain⟨D,hD,z0⟩:=f i C H hr;obtain⟨D',M0,I0⟩:=f i' C' L0 U0;exact h.inj i i' D D' hD M0 z0 I0 a0 w0 g0
 ·intro i C e' o' s H hg v0 hs;refine Live.upd ?_;by_cases hi:i=id
  ·subst hi;rw[az] at H;obtain rfl:B'=C:=by simpa using H
   exact y0 e' o' s v0 hs
  ·rw[ak hi] at H;exact h.live i C e' o' s H hg v0 hs
theorem BC.write (h:BC W0 bl β w) (hB:bl id=some B) (a0:B.kd= .own)
 (he:e<B.n) (ho:o+cs.length<=B.sz) (N: ∀s∈cs,Live bl s):
 BC W0 (upd bl id (B.put e o cs)) β (w.setCells (β id).blk ((β id).off+e*(β id).sz+o) (SV.concs β cs)):=by
 have Y:B.kd≠ .gone:=by rw[a0];simp
 have q:=h.blk id B hB Y;have hl:=q.len e he;have J:(SV.concs β cs).length=cs.length:=by rw[SV.concs_eq];simp
 have up: ∀{a b:Nat},a<b->a*B.sz+B.sz<=b*B.sz:=λ{a b} e0=>by rw[<-zce];exact zbl _ e0
 have:=q.le;have u0:=up (show e<(β id).cap by omega);rw[q.sz,zbq];refine h.writeG hB a0 (B':=B.put e o cs) (by rw[J];omega) rfl a0 q.le q.nn (λi hi=> ?_) (λi j s hi H=> ?_) (λi j s hi H=> ?_)
 ·rw[Blk.put_get];split
  ·rw[jd (by subst i;omega)];exact q.len i hi
  ·exact q.len i hi
 ·rw[Blk.put_get] at H;split at H
  ·rw[jR (by subst i;omega)] at H;split at H
   ·exact N s (zal H)
   ·exact h.live id B i j s hB Y hi H
  ·exact h.live id B i j s hB Y hi H
 ·rw[Blk.put_get] at H;rw[J];split at H
  ·rename_i g0;subst g0;rw[jR (by omega)] at H;split at H
   ·refine .inl ⟨by omega,by omega, ?_⟩;rw[show i*B.sz+j - (i*B.sz+o)=j - o by omega,SV.concs_eq,zaL,H];rfl
   ·exact .inr ⟨by omega,hi,H⟩
  ·have hj:j<B.sz:=by
    have:=(zaV.1 H).1;rwa[q.len i hi] at this
   refine .inr ⟨?_,hi,H⟩;rcases zah i e with c|c
   ·have:=up c;omega
   ·have:=up (show e<i by omega);omega
variable {kd:BK}
theorem BC.newObj (h:BC W0 bl β w) (hid:bl id=none) (hk:kd.map=true) {ob:Obj}
 (o0:MapOK (gp β id ⟨w.heap.size,0,0,0,false⟩) w.heap.size (w.alloc ob) kd get) (n0:kd.lst=true-> ∀e s,s∈get e->Live bl s):
 BC W0 (upd bl id {n:=0,sz:=0,get:=get,kd:=kd}) (gp β id ⟨w.heap.size,0,0,0,false⟩) (w.alloc ob):=by
 have k:=h.step ((zdC w.heap.size w).alloc (za0 _) ob);have q0:(w.alloc ob).heap.size=w.heap.size+1:=by simp[World.alloc_eq]
 have F: ∀i C,upd bl id {n:=0,sz:=0,get:=get,kd:=kd} i=some C->(i=id/\C={n:=0,sz:=0,get:=get,kd:=kd})\/(i≠id/\bl i=some C):=by
  intro i C H;by_cases hi:i=id
  ·subst hi;rw[az] at H;exact .inl ⟨rfl,by simpa using H.symm⟩
  ·rw[ak hi] at H;exact .inr ⟨hi,H⟩
 have nk: ∀{K:BK},K.map=false->kd≠K:=λhK e=>by rw[e,hK] at hk;cases hk
 refine⟨k.below, ?_, ?_, ?_, ?_, ?_, ?_, ?_, ?_, ?_⟩
 ·intro i C H hg;rcases F i C H with ⟨rfl,rfl⟩|⟨hi,H⟩
  ·have Y:gp β i (⟨w.heap.size,0,0,0,false⟩:Loc) i=⟨w.heap.size,0,0,0,false⟩:=aA _ _ _;refine⟨by rw[Y],λ_=>by rw[Y,q0];exact zcy _,zaA _,λe N=>absurd N (zbm _),λj hj=>by rw[Y] at hj;simp at hj,λ_ j hj=>by rw[Y] at hj;simp at hj,λe N=>absurd N (zbm _),λh=>(by rw[Y] at h;cases h),λ_=>by rw[Y]⟩
  ·have q:=k.blk i C H hg;have Y:gp β id (⟨w.heap.size,0,0,0,false⟩:Loc) i=β i:=aC hi;refine⟨by rw[Y];exact q.sz,by rw[Y];exact q.lt,by rw[Y];exact q.le,q.len,by rw[Y];exact q.ex,by rw[Y];exact q.fr, ?_,by rw[Y];exact q.nil,by rw[Y];exact q.nn⟩;intro e N o s hs;rw[(h.live i C e o s H hg N hs).conc hid];have:=q.val e N o s hs;simpa [addr,Y] using this
 ·intro i C H J hn;rcases F i C H with ⟨rfl,rfl⟩|⟨hi,H⟩
  ·exact absurd J (nk rfl)
  ·rw[aC hi] at hn ⊢;exact h.own i C H J hn
 ·intro i C H J hn;rcases F i C H with ⟨rfl,rfl⟩|⟨hi,H⟩
  ·exact absurd J (BK.fix_nm hk)
  ·rw[aC hi] at hn ⊢;exact h.old i C H J hn
 ·intro i j C D H hD g0 i0 hn l0 N;rcases F i C H with ⟨rfl,rfl⟩|⟨hi,H⟩
  ·exact absurd g0 (nk rfl)
  ·rcases F j D hD with ⟨rfl,rfl⟩|⟨hj,hD⟩
   ·exact absurd i0 (nk rfl)
   ·rw[aC hi] at hn N;rw[aC hj] at l0 N;exact h.inj i j C D H hD g0 i0 hn l0 N
 ·intro i C e o s H hg N hs;rcases F i C H with ⟨rfl,rfl⟩|⟨hi,H⟩
  ·exact absurd N (zbm _)
  ·exact(h.live i C e o s H hg N hs).upd
 ·intro i C H hm;rcases F i C H with ⟨rfl,rfl⟩|⟨hi,H⟩
  ·rw[aA];exact⟨rfl,rfl, .inl h.below.size,o0⟩
  ·obtain⟨k1,k2,k3,k4⟩:=k.maps.ok i C H hm;rw[aC hi];exact⟨k1,k2,k3,k4.to rfl (GetEq.refl _ _) (λ_ _ _ _ _=>rfl) λhk e s hs=>(h.maps.live i C e s H hk hs).conc hid⟩
 ·intro i j C D H hD hm j0 N;have lt: ∀i C,bl i=some C->C.kd.map=true->(β i).blk<w.heap.size:=λi C H hm=>(h.blk i C H (by intro e;rw[e] at hm;cases hm)).lt (h.maps.ok i C H hm).2.1;rcases F i C H with ⟨h1,_⟩|⟨hi,a0⟩<;>rcases F j D hD with ⟨h2,_⟩|⟨hj,e0⟩
  ·rw[h1,h2]
  ·rw[h1,aA,aC hj] at N;have:=lt j D e0 j0;rw[<-N] at this;exact absurd this (zcz _)
  ·rw[h2,aA,aC hi] at N;have:=lt i C a0 hm;rw[N] at this;exact absurd this (zcz _)
  ·rw[aC hi,aC hj] at N;exact h.maps.inj i j C D a0 e0 hm j0 N
 ·intro i C e s H J hs;rcases F i C H with ⟨rfl,rfl⟩|⟨hi,H⟩
  ·exact(n0 J e s hs).upd
  ·exact(h.maps.live i C e s H J hs).upd
 ·intro i C H J;rcases F i C H with ⟨rfl,rfl⟩|⟨hi,H⟩
  ·rw[aA]
  ·rw[aC hi];exact h.maps.off i C H J
theorem BC.newMap (h:BC W0 bl β w) (hid:bl id=none) (Y:kd.map=true) (hit:kd.it=false) (J:kd.loop=false):
 BC W0 (upd bl id {n:=0,sz:=0,get:=λ_=> [],kd:=kd}) (gp β id ⟨w.heap.size,0,0,0,false⟩) (w.alloc (.map #[] 0)):=by
 have H:(w.alloc (.map #[] 0)).heap[w.heap.size]? =some (.map #[] 0):=by show (w.heap.push _)[w.heap.size]? =_;simp
 refine h.newObj hid Y ?_ λ_ e s hs=>by simp at hs
 cases kd with
 |mpL=>exact⟨#[],H,by simp,λe N=>by simp at N,λ_ _=>rfl⟩
 |mpI=>exact⟨[],H,λ_=>rfl⟩
 |mpB=>exact⟨[],H,λ_=>rfl,λ_ h=>(by cases h),zcA⟩
 |itL=>cases hit
 |itK=>cases hit
 |dm=>cases J
 |lp r=>cases J
 |_=>trivial
theorem BC.setMap (h:BC W0 bl β w) (hB:bl id=some B) (hm:B.kd.map=true) {o':Obj}
 (x0:MapOK β (β id).blk {w with heap:=w.heap.setIfInBounds (β id).blk o'} B.kd get') (hl:B.kd.lst=true-> ∀e s,s∈get' e->Live bl s) (e0:(∀es c,w.heap[(β id).blk]? ≠some (.map es c))\/ ∀j D,bl j=some D->D.kd.it=false):
 BC W0 (upd bl id {B with get:=get'}) β {w with heap:=w.heap.setIfInBounds (β id).blk o'}:=by
 obtain⟨m1,m2,m3,m4⟩:=h.maps.ok id B hB hm;have w0:=m4.cellN hm;have F: ∀i C,upd bl id {B with get:=get'} i=some C->(i=id/\C={B with get:=get'})\/(i≠id/\bl i=some C):=by
  intro i C H;by_cases hi:i=id
  ·subst hi;rw[az] at H;exact .inl ⟨rfl,by simpa using H.symm⟩
  ·rw[ak hi] at H;exact .inr ⟨hi,H⟩
 have Y: ∀r,r≠(β id).blk->(w.heap.setIfInBounds (β id).blk o')[r]? =w.heap[r]? :=λr hr=>by simp[Ne.symm hr]
 have g0: ∀j,w.cell? ⟨(β id).blk,j,none⟩=none:=w0;have y0:Below (β id).blk w {w with heap:=w.heap.setIfInBounds (β id).blk o'}:=⟨rfl,rfl,rfl,by simp,λk J=>Y k (by omega)⟩;have nm: ∀{K:BK},K.map=false->B.kd≠K:=λhK e=>by rw[e,hK] at hm;cases hm
 have blk: ∀i C,bl i=some C->C.kd≠ .gone->BlkOK β i C {w with heap:=w.heap.setIfInBounds (β id).blk o'}:=by
  intro i C H hg;have q:=h.blk i C H hg;have i0: ∀j,(β i).blk≠(β id).blk->({w with heap:=w.heap.setIfInBounds (β id).blk o'}:World).cell? ⟨(β i).blk,j,none⟩=w.cell? ⟨(β i).blk,j,none⟩:=λj hb=>by simp only[World.cell?,Y _ hb]
  have v0: ∀j,(β i).blk≠(β id).blk->({w with heap:=w.heap.setIfInBounds (β id).blk o'}:World).frozen? ⟨(β i).blk,j,none⟩=w.frozen? ⟨(β i).blk,j,none⟩:=λj hb=>by simp only[World.frozen?,Y _ hb]
  have apart: ∀j,(w.cell? ⟨(β i).blk,j,none⟩).isSome=true->(β i).blk≠(β id).blk:=λj hj e=>by rw[e,g0] at hj;cases hj
  refine⟨q.sz,λh=>by simpa using q.lt h,q.le,q.len,λj hj=> ?_,λJ j hj=> ?_,λe N o s hs=> ?_,q.nil,q.nn⟩
  ·rw[i0 _ (apart _ (q.ex j hj))];exact q.ex j hj
  ·rw[v0 _ (apart _ (q.ex j hj))];exact q.fr J j hj
  ·have:=q.val e N o s hs;unfold addr at this ⊢;rw[i0 _ (apart _ (by rw[this];rfl))];exact this
 refine⟨h.below.at m3 rfl rfl rfl (by simp) Y, ?_, ?_, ?_, ?_, ?_, ?_, ?_, ?_, ?_⟩
 ·intro i C H hg;rcases F i C H with ⟨rfl,rfl⟩|⟨_,H⟩
  ·have q:=blk i B hB hg;exact⟨q.sz,q.lt,q.le,λe N=>by rw[show ({B with get:=get'}:Blk).n=0 from m1] at N;omega,q.ex,λJ=>q.fr J,λe N=>by rw[show ({B with get:=get'}:Blk).n=0 from m1] at N;omega,q.nil,q.nn⟩
  ·exact blk i C H hg
 ·intro i C H J;rcases F i C H with ⟨rfl,rfl⟩|⟨_,H⟩
  ·exact absurd J (nm rfl)
  ·exact h.own i C H J
 ·intro i C H J;rcases F i C H with ⟨rfl,rfl⟩|⟨_,H⟩
  ·exact absurd J (BK.fix_nm hm)
  ·exact h.old i C H J
 ·intro i j C D H hD n0 o0;rcases F i C H with ⟨rfl,rfl⟩|⟨_,H⟩
  ·exact absurd n0 (nm rfl)
  ·rcases F j D hD with ⟨rfl,rfl⟩|⟨_,hD⟩
   ·exact absurd o0 (nm rfl)
   ·exact h.inj i j C D H hD n0 o0
 ·intro i C e o s H hg N hs;rcases F i C H with ⟨rfl,rfl⟩|⟨_,H⟩
  ·rw[show ({B with get:=get'}:Blk).n=0 from m1] at N;omega
  ·exact(h.live i C e o s H hg N hs).upd
 ·intro i C H q0;rcases F i C H with ⟨rfl,rfl⟩|⟨hi,H⟩
  ·exact⟨m1,m2,m3,x0⟩
  ·obtain⟨k1,k2,k3,k4⟩:=h.maps.ok i C H q0;refine⟨k1,k2,k3,k4.to (Y _ λe=>hi (h.maps.inj i id C B H hB q0 hm e)) (GetEq.refl _ _) (λhit m es c a0=>Y _ λe=> ?_) λ_ _ _ _=>rfl⟩;rcases e0 with e0|e0
   ·rw[e] at a0;exact e0 _ _ a0
   ·rw[e0 i C H] at hit;cases hit
 ·intro i j C D H hD u0 a0 N;rcases F i C H with ⟨h1,_⟩|⟨hi,j0⟩<;>rcases F j D hD with ⟨h2,_⟩|⟨hj,l0⟩
  ·rw[h1,h2]
  ·rw[h1] at N ⊢;exact h.maps.inj _ j B D hB l0 hm a0 N
  ·rw[h2] at N ⊢;exact h.maps.inj i _ C B j0 hB u0 hm N
  ·exact h.maps.inj i j C D j0 l0 u0 a0 N
 ·intro i C e s H J hs;rcases F i C H with ⟨rfl,rfl⟩|⟨_,H⟩
  ·exact(hl J e s hs).upd
  ·exact(h.maps.live i C e s H J hs).upd
 ·intro i C H J;rcases F i C H with ⟨rfl,rfl⟩|⟨_,H⟩
  ·exact h.maps.off _ B hB J
  ·exact h.maps.off i C H J
variable {B':Base}
theorem BC.rebase {B:Base} (h:BC B bl β w) (hp:Pres B' w)
 (Y: ∀i X,bl i=some X->X.kd= .own\/X.kd.map=true->(β i).nil=false->B.mine (β i).blk->B'.mine (β i).blk)
 (ho: ∀i X,bl i=some X->X.kd.fix=true->(β i).nil=false->B.out (β i).blk->B'.out (β i).blk):BC B' bl β w where
 below:=hp
 blk:=h.blk
 own i X H J N:=Y i X H (.inl J) N (h.own i X H J N)
 old i X H J N:=⟨ho i X H J N (h.old i X H J N).1,(h.old i X H J N).2⟩
 inj:=h.inj
 live:=h.live
 maps:=
  {ok:=λi X H J=>by
    obtain⟨k1,k2,k3,k4⟩:=h.maps.ok i X H J;exact⟨k1,k2,Y i X H (.inr J) k2 k3,k4⟩
   inj:=h.maps.inj
   live:=h.maps.live
   off:=h.maps.off}
theorem BC.late (h:BC W0 bl β w) (hid:bl id=none) {ty:TypeId}
 (Y:w.heap[b]? =some (.cells (SV.concs β cs).toArray ty (0,0))) (a0: ∀s∈cs,s.ids= []) (H:W0.mine b) (J: ∀i C,bl i=some C->C.kd= .own->(β i).nil=false->(β i).blk≠b):
 BC W0 (upd bl id {n:=1,sz:=cs.length,get:=λ_=>cs,kd:= .own}) (gp β id ⟨b,0,cs.length,1,false⟩) w:=by
 have hc: ∀j,w.cell? ⟨b,j,none⟩=(SV.concs β cs)[j]? :=λj=>by simp[World.cell?,Y]
 have e0:(SV.concs β cs).length=cs.length:=by rw[SV.concs_eq];simp
 refine h.allocG hid (B:={n:=1,sz:=cs.length,get:=λ_=>cs,kd:= .own}) rfl (λ_ _=>rfl) (λe o s he N i hi=>by rw[a0 s (zal N)] at hi;cases hi) (zdC _ _) (L:=⟨b,0,cs.length,1,false⟩) rfl H J
  (zaq.1 Y).1 (za0 _) (λh=>by cases h) (λ_=>rfl) (λj hj=> ?_) (λj hj=> ?_) (λe o s he N=> ?_)
 ·simp only[za7,hc,Nat.one_mul] at hj ⊢;rw[zaa (by omega)];rfl
 ·simp[World.frozen?,Y]
 ·have:e=0:=by simp at he;exact he
  subst this;simp only[zcD,za7,hc,SV.concs_eq];simp at N;simp[N]
theorem BC.hop {B:Base} {g:Nat} (h:BC B bl β w) (hp:Pres B' w') (g0:w.heap.size<=w'.heap.size) (hh: ∀k,k<w.heap.size->k≠b->k≠g->w'.heap[k]? =w.heap[k]?)
 (hb: ∀i X,bl i=some X->X.kd≠ .gone->(β i).nil=false->(β i).blk≠b/\(β i).blk≠g) (e0: ∀es c,w.heap[b]? ≠some (.map es c)/\w.heap[g]? ≠some (.map es c))
 (hm: ∀i X,bl i=some X->X.kd= .own\/X.kd.map=true->(β i).nil=false->B.mine (β i).blk->B'.mine (β i).blk)
 (ho: ∀i X,bl i=some X->X.kd.fix=true->(β i).nil=false->B.out (β i).blk->B'.out (β i).blk):BC B' bl β w':=by
 have at': ∀i X,bl i=some X->X.kd≠ .gone->(β i).nil=false->w'.heap[(β i).blk]? =w.heap[(β i).blk]? :=λi X H hg N=>
  hh _ ((h.blk i X H hg).lt N) (hb i X H hg N).1 (hb i X H hg N).2
 have mp: ∀(m:Nat) es c,w.heap[m]? =some (Obj.map es c)->w'.heap[m]? =w.heap[m]? :=λm es c a0=>
  hh m (zaq.1 a0).1 (λe=>(e0 es c).1 (e▸a0)) (λe=>(e0 es c).2 (e▸a0))
 have k1:BC B bl β w->MapsOK B bl β w':=λh=>h.maps.to (λi X H J=>⟨H,rfl,at' i X H (by intro e;rw[e] at J;cases J) (h.maps.ok i X H J).2.1⟩) (λs hs=>⟨hs,rfl⟩) mp;refine⟨hp,λi X H hg=> ?_,λi X H J N=>hm i X H (.inl J) N (h.own i X H J N),λi X H J N=>⟨ho i X H J N (h.old i X H J N).1,(h.old i X H J N).2⟩,h.inj,h.live, ?_⟩
 ·have q:=h.blk i X H hg;have nl: ∀j,j<(β i).cap*X.sz->w'.heap[(β i).blk]? =w.heap[(β i).blk]? :=λj Y=>at' i X H hg (q.lt_cap Y).1;refine⟨q.sz,λN=>zam (q.lt N) g0,q.le,q.len,λj Y=> ?_,λJ j Y=> ?_,λe he o s hs=> ?_,q.nil,q.nn⟩
  ·have:=q.ex j Y;simp only[World.cell?,nl j Y] at this ⊢;exact this
  ·have:=q.fr J j Y;simp only[World.frozen?,nl j Y] at this ⊢;exact this
  ·have hl:=at' i X H hg (q.not_nil he);have:=q.val e he o s hs;simp only[World.cell?,addr,hl] at this ⊢;exact this
 ·have k2:=k1 h;refine⟨λi X H J=> ?_,k2.inj,k2.live,k2.off⟩;obtain⟨k1,k3,k4,k5⟩:=k2.ok i X H J;exact⟨k1,k3,hm i X H (.inr J) k3 k4,k5⟩
end
section
variable {P:Program}
abbrev _root_.zdN:=Exit->Act->World->Prop
variable {b:Frame} {Q:zdN} {a:Act} {w:World}
def FW (r:Option Nat):Fence:={Fence.wide with round:=r}
def _root_.Go.Oper.uponX (P:Program) (o:Oper) (a:Act) (next:Act->World->Prop) (Q:zdN):Result Next->Prop
 | .ok (.round l f tmps assign body) w'=>RoundIn Fence.wide 0 P l f tmps assign body w' λ
    | .returned v,H=>next (a.put o.dst v) H
    | .panicked chain,H=>Q (.panic chain) a H
    | .outgrown,_=>LetsOut Q
 | .ok (.value v) w'=>next (a.put o.dst v) w'
 | .ok .skip w'=>next (a.put o.dst undef) w'
 | .ok (.defer d) w'=>next ({a with defers:=d::a.defers}.put o.dst undef) w'
 | .ok (.enter f args) w'=>Calls P f args w' λ
    | .returned v,H=>next (a.put o.dst v) H
    | .panicked chain,H=>Q (.panic chain) a H
    | .outgrown,_=>LetsOut Q
 | .ok (.row row args) w'=>Rows P row args w' λv H=>next (a.put o.dst v) H
 | .halt (.panic v) w'=>Q (.panic [{v,recovered:=false}]) a w'
 |_=>False
def _root_.Go.Oper.wpX (P:Program) (o:Oper) (a:Act) (w:World) (next:Act->World->Prop) (Q:zdN):Prop:=
 o.uponX P a next Q ((execOp a.eval o).run P w)
variable {o:Oper} {K:Act->World->Prop}
theorem _root_.Go.Oper.wpX_mono {a:Act} {w:World} {K':Act->World->Prop} {Q:zdN} (h: ∀a w,K a w->K' a w) (hh:o.wpX P a w K Q):o.wpX P a w K' Q:=by
 unfold Oper.wpX at*
 generalize (execOp a.eval o).run P w=x at*
 cases x with
 |ok n w'=>
  cases n<;>simp only[Oper.uponX] at hh ⊢ <;>
   first
    |exact h _ _ hh
    |exact Calls.mono hh (λe J H=>by cases e<;>first|exact h _ _ H|exact H)
    |exact RoundIn.mono hh (λe J H=>by cases e<;>first|exact h _ _ H|exact H)
    |(intro c cs;obtain⟨v,N,r,s⟩:=hh c cs;exact⟨v,N,h _ _ r,s⟩)
    |exact hh
 |halt x w'=>cases x<;>simp only[Oper.uponX] at hh ⊢ <;>exact hh
theorem _root_.Go.Oper.uponX_value {a:Act} {next:Act->World->Prop} {Q:zdN} {v:Value} {w:World}:o.uponX P a next Q (.ok (.value v) w)=next (a.put o.dst v) w:=rfl
def ln (o:Oper):Bool:=match o.op with
 | .defer _=>false
 |_=>true
variable {r:Option Nat}
theorem aDK {ρ:Operand->Value} (h:r=none\/ln o=true):o.semAt r ρ=execOp ρ o:=by
 rcases h with rfl|h
 ·rfl
 ·cases r with
  |none=>rfl
  |some l=>exact Oper.semAt_some l ρ o λc H=>by unfold ln at h;rw[H] at h;cases h
theorem aBT {a:Act} {w:World} {Q:zdN} (J:r=none\/ln o=true) (h:o.wpX P a w K Q):o.wpIn (FW r) 0 P a w K Q:=by
 refine⟨λ_ _=>trivial, ?_⟩;rw[show (FW r).round=r from rfl,aDK J];unfold Oper.wpX at h;generalize (execOp a.eval o).run P w=x at*
 have H:((FW r).depth.isSome=true->1<=0):=λh=>by cases h
 cases x with
 |ok n w'=>
  cases n with
  |value v=>exact h
  |skip=>exact h
  |defer d=>exact h
  |enter f args=>exact⟨H,(callsIn_wide (n:=0)).2 h⟩
  |row s args=>exact⟨H,λc cs _=>let ⟨v,N,k,s⟩:=h c cs;⟨v,N,k,stepsIn_wide.2 s⟩⟩
  |round l f t x y=>exact⟨H,h⟩
  |_=>exact h.elim
 |halt x w'=>cases x<;>first|exact h|exact h.elim
abbrev _root_.zdO:=Array Oper
def ayH (P:Program) (ops:zdO) (Q:zdN) (i:Nat) (K:Act->World->Prop) (a:Act) (w:World):Prop:=
 match ops[i]? with
 |none=>K a w
 |some o=>if Region.wanted o (yielded ops a.tmps) then o.wpX P a w K Q\/False else K (a.put o.dst undef) w
def aFo (P:Program) (J:Region.Mode) (ops:zdO) (Q:zdN):Nat->Array Bool->Act->World->Prop
 |0,listed,a,w=>Region.ready J ops listed= []/\Q .normal a w
 |H+1,listed,a,w=>
  (Region.ready J ops listed= []->Q .normal a w)/\
  ∀i∈Region.ready J ops listed,ayH P ops Q i (aFo P J ops Q H (listed.setIfInBounds i true)) a w
def aFp (P:Program) (ops:zdO) (Q:zdN):List Oper->Act->World->Prop
 | [],a,w=>Q .normal a w
 |o::rest,a,w=>
  if Region.wanted o (yielded ops a.tmps) then o.wpX P a w (aFp P ops Q rest) Q\/False else aFp P ops Q rest (a.put o.dst undef) w
theorem ayV {r:Option Nat} {ops:zdO} {Q:zdN}: ∀{l:List Oper} {a:Act} {w:World},(r=none\/l.all ln=true)->aFp P ops Q l a w->wpListIn (FW r) 0 P ops Q l a w
 | [],a,w,_,h=>h
 |o::l,a,w,J,h=>by
  have h1:r=none\/ln o=true:=J.imp id λh=>by simp only[zbx,za2] at h;exact h.1
  have h2:r=none\/l.all ln=true:=J.imp id λh=>by simp only[zbx,za2] at h;exact h.2
  unfold aFp at h;unfold wpListIn;split at h
  ·rename_i H;rw[if_pos H];exact Oper.wpIn_mono (λa w k=>ayV h2 k) (aBT h1 (h.resolve_right id))
  ·rename_i H;rw[if_neg H];exact⟨λ_ _=>trivial,ayV h2 h⟩
theorem ayP {r:Option Nat} {md:Region.Mode} {ops:zdO} {Q:zdN} (H:r=none\/ops.toList.all ln=true): ∀{k:Nat} {listed:Array Bool} {a:Act} {w:World},aFo P md ops Q k listed a w->wpAnyIn (FW r) 0 P md ops Q k listed a w
 |0,_,_,_,h=>h
 |k+1,listed,a,w,h=>by
  refine⟨h.1,λi hi=> ?_⟩;have q:=h.2 i hi;unfold ayH at q;unfold wpOpIn;split at q
  ·rename_i Y;rw[Y];exact ayP H q
  ·rename_i o N;rw[N];have h1:r=none\/ln o=true:=H.imp id λh=>zaf.1 h o (by rw[Array.mem_toList_iff];exact zd1 N);simp only[];split at q
   ·rename_i J;rw[if_pos J];exact Oper.wpIn_mono (λa w k=>ayP H k) (aBT h1 (q.resolve_right id))
   ·rename_i J;rw[if_neg J];exact⟨λ_ _=>trivial,ayP H q⟩
def WpB (P:Program) (b:Frame) (c:Code) (Q:zdN) (a:Act) (w:World):Prop:=
 ∀(k:List Item) (cs:List Frame),∃e H w',Q e H w'/\ArrivesIn (Machine.fenced P Fence.wide) P (lone (b.atR a (.code c::k)) cs w) b k cs e H w'
section
variable {c:Code}
theorem WpB.of (h:c.wpIn (FW b.roundOf) 0 P Q a w):WpB P b c Q a w:=λk cs=>h b k cs rfl trivial (λ_ h=>by cases h)
theorem WpB.mono {Q':zdN} (hq: ∀e a w,Q e a w->Q' e a w) (h:WpB P b c Q a w):WpB P b c Q' a w:=λk cs=>let ⟨e,H,w',q,r⟩:=h k cs;⟨e,H,w',hq _ _ _ q,r⟩
theorem WpB.skip (h:Q .normal a w):WpB P b .skip Q a w:= .of (wpIn_skip h)
theorem WpB.label {l:Nat} (h:Q .normal a w):WpB P b (.label l) Q a w:= .of (wpIn_label h)
variable {id:Nat}
theorem WpB.exit (h:Q (.exit id) a w):WpB P b (.exit id) Q a w:= .of (wpIn_exit h)
theorem WpB.ret (h:Q .ret a w):WpB P b .ret Q a w:= .of (wpIn_ret h)
variable {ops:zdO}
theorem WpB.region_list (H:b.roundOf=none\/ops.toList.all ln=true) (h:aFp P ops Q ops.toList a w):WpB P b (.region id ops false) Q a w:= .of (wpIn_region_list (ayV H h))
theorem WpB.region_any (J:P.follows .mixedOrders=true) (H:b.roundOf=none\/ops.toList.all ln=true) (h:aFo P .any ops Q ops.size (Array.replicate ops.size false) a {w with drawn:=w.drawn+1}):WpB P b (.region id ops true) Q a w:= .of (wpIn_region_any J (ayP H h))
variable {x y:Code}
theorem WpB.seq (h:WpB P b x (Exit.then (WpB P b y Q) Q) a w):WpB P b (.seq x y) Q a w:=by
 intro k cs;have s0:StepsIn (Machine.fenced P Fence.wide) P (lone (b.atR a (.code (.seq x y)::k)) cs w) _:= .one (fenced_wide _ _) stepR_seq;obtain⟨e,Y,g0,hq,J⟩:=h (.code y::k) cs;cases e with
 |normal=>
  obtain⟨e0,a0,i0,N,H⟩:=hq k cs;exact⟨e0,a0,i0,N, .of_steps (StepsIn.trans s0 J) H⟩
 |_=>exact⟨_,Y,g0,hq, .of_steps s0 (.pass (x:= .code y) rfl (λ_ _=> .inl (by simp)) J)⟩
theorem WpB.cond {c:Operand} {t:Bool} (J:a.eval c= .bool t) (Y:t=true->WpB P b x Q a w) (N:t=false->WpB P b y Q a w):WpB P b (.cond c x y) Q a w:=by
 have go:WpB P b (if t then x else y) Q a w:=by
  cases t
  ·exact N rfl
  ·exact Y rfl
 exact λk cs=>let ⟨e,H,w',q,r⟩:=go k cs;⟨e,H,w',q, .of_steps (.one (fenced_wide _ _) (stepR_cond J)) r⟩
theorem WpB.block (h:WpB P b c (Exit.inBlock id Q) a w):WpB P b (.block id c) Q a w:=by
 intro k cs;have h0:=fenced_wide P (lone (b.atR a (.code (.block id c)::k)) cs w);obtain⟨e,J,N,hq,H⟩:=h (.inBlock id::k) cs;cases e with
 |normal=>exact⟨.normal,J,N,hq, .head h0 stepR_block (StepsIn.trans H (.one (fenced_wide _ _) stepR_inBlock))⟩
 |exit id'=>
  by_cases hid:id'=id
  ·simp only[Exit.inBlock,hid,if_true] at hq;exact⟨.normal,J,N,hq, .head h0 stepR_block (H.1 k (by simp[exitTo,hid]))⟩
  ·simp only[Exit.inBlock,hid,if_false] at hq;have this:(id==id')=false:=by simp;exact λh=>hid h.symm
   have hx:exitTo id' (.inBlock id::k)=exitTo id' k:=by simp[exitTo,this]
   exact⟨.exit id',J,N,hq,λk' hk=> .head h0 stepR_block (H.1 k' (by rw[hx];exact hk)),
    λa0 hk=>let ⟨Y,h1,h2⟩:=H.2 a0 (by rw[hx];exact hk);⟨Y,h1, .head h0 stepR_block h2⟩⟩
 |goto l=>
  have hx:gotoIn l (.inBlock id::k)=gotoIn l k:=by simp[gotoIn]
  exact⟨_,J,N,hq,λk' hk=> .head h0 stepR_block (H.1 k' (by rw[hx];exact hk)),
   λa0 hk=>let ⟨Y,h1,h2⟩:=H.2 a0 (by rw[hx];exact hk);⟨Y,h1, .head h0 stepR_block h2⟩⟩
 |ret=>exact⟨_,J,N,hq, .of_steps (.one h0 stepR_block) H⟩
 |panic ch=>exact⟨_,J,N,hq, .of_steps (.one h0 stepR_block) H⟩
 |outgrown=>exact⟨_,J,N,hq, .of_steps (.one h0 stepR_block) H⟩
theorem WpB.loop (I:Act->World->Prop) (μ:Act->World->Nat->Prop) (j0: ∃j,μ a w j/\I a w)
 (round: ∀a w j,I a w->μ a w j->WpB P b c (Exit.then (λa' w'=>I a' w'/\ ∃j',μ a' w' j'/\j'<j) Q) a w):WpB P b (.loop c) Q a w:=by
 intro k cs;have key: ∀j a w,μ a w j->I a w->
  ∃e a' w',Q e a' w'/\ArrivesIn (Machine.fenced P Fence.wide) P (lone (b.atR a (.code c:: .inLoop c::k)) cs w) b k cs e a' w':=by
  intro j
  induction j using Nat.strongRecOn with
  |_ j ih=>
   intro a w hn hI;obtain⟨e,N,Y,hq,H⟩:=round a w j hI hn (.inLoop c::k) cs;cases e with
   |normal=>
    obtain⟨a0,j',hm,n0⟩:=hq;obtain⟨i0,g0,l0,e0,J⟩:=ih j' n0 N Y hm a0;exact⟨i0,g0,l0,e0, .of_steps (StepsIn.trans H (.one (fenced_wide _ _) stepR_inLoop)) J⟩
   |_=>exact⟨_,N,Y,hq, .pass (x:= .inLoop c) rfl (λ_ _=> .inl (by simp)) H⟩
 obtain⟨j,hj,hI⟩:=j0;obtain⟨e,a',w',hq,H⟩:=key j _ w hj hI;exact⟨e,a',w',hq, .of_steps (.one (fenced_wide _ _) stepR_loop) H⟩
def aye (P:Program) (b:Frame) (c:Code) (Q:zdN):Nat->Act->World->Prop
 |0,_,_=>False
 |m+1,a,w=>WpB P b c (Exit.then (aye P b c Q m) Q) a w
theorem WpB.loop_rounds: ∀(m:Nat) {a:Act} {w:World},aye P b c Q m a w->WpB P b (.loop c) Q a w:=by
 intro m a w h k cs;have key: ∀m a w,aye P b c Q m a w->
  ∃e a' w',Q e a' w'/\ArrivesIn (Machine.fenced P Fence.wide) P (lone (b.atR a (.code c:: .inLoop c::k)) cs w) b k cs e a' w':=by
  intro m
  induction m with
  |zero=>intro a w h;exact h.elim
  |succ m ih=>
   intro a w h;obtain⟨e,N,Y,hq,H⟩:=h (.inLoop c::k) cs;cases e with
   |normal=>
    obtain⟨g0,e0,i0,a0,J⟩:=ih N Y hq;exact⟨g0,e0,i0,a0, .of_steps (StepsIn.trans H (.one (fenced_wide _ _) stepR_inLoop)) J⟩
   |_=>exact⟨_,N,Y,hq, .pass (x:= .inLoop c) rfl (λ_ _=> .inl (by simp)) H⟩
 obtain⟨e,a',w',hq,H⟩:=key m a w h;exact⟨e,a',w',hq, .of_steps (.one (fenced_wide _ _) stepR_loop) H⟩
variable {k:List Item} {cs:List Frame}
theorem gF:step P (lone (b.atR a (.code (.scope c)::k)) cs w)= .next (lone (b.atR a (.code c:: .inScope c::k)) cs w):=
 step_lone_go (by simp[stepG,stepG.exec,Frame.atR])
theorem ayW:step P (lone (b.atR a (.inScope c::k)) cs w)= .next (lone (b.atR a k) cs w):=
 step_lone_go (by simp[stepG,stepG.exec,Frame.atR])
theorem WpB.scope (h:WpB P b c (Exit.noGoto Q) a w):WpB P b (.scope c) Q a w:=by
 intro k cs;have h0:=fenced_wide P (lone (b.atR a (.code (.scope c)::k)) cs w);obtain⟨e,J,N,hq,H⟩:=h (.inScope c::k) cs;cases e with
 |normal=>exact⟨.normal,J,N,hq, .head h0 gF (StepsIn.trans H (.one (fenced_wide _ _) ayW))⟩
 |exit id=>
  have hx:exitTo id (.inScope c::k)=exitTo id k:=by simp[exitTo]
  exact⟨.exit id,J,N,hq,λk' hk=> .head h0 gF (H.1 k' (by rw[hx];exact hk)),λa0 hk=>let ⟨Y,h1,h2⟩:=H.2 a0 (by rw[hx];exact hk);⟨Y,h1, .head h0 gF h2⟩⟩
 |goto l=>exact hq.elim
 |ret=>exact⟨_,J,N,hq, .of_steps (.one h0 gF) H⟩
 |panic ch=>exact⟨_,J,N,hq, .of_steps (.one h0 gF) H⟩
 |outgrown=>exact⟨_,J,N,hq, .of_steps (.one h0 gF) H⟩
end
def aAL (P:Program) (l:Nat) (R:Ending->World->Prop):zdN
 | .normal,_,w=> ∃v w',(Instr.endRound l none).run P w= .ok v w'/\R (.returned v) w'
 | .ret,_,w=> ∃v w',(Instr.endRound l (some .ret)).run P w= .ok v w'/\R (.returned v) w'
 | .exit id,_,w=> ∃v w',(Instr.endRound l (some (.exit id))).run P w= .ok v w'/\R (.returned v) w'
 | .panic chain,a,w=>a.defers= []/\R (.panicked chain) w
 |_,_,_=>False
variable {l:Nat} {f:FuncId} {fn:Func} {assign body:Code} {R:Ending->World->Prop}
theorem aDL {tmps:Array Value} {w:World} (hf:P.funcs[f]? =some fn)
 (h: ∀b:Frame,b.fn=f->b.roundOf=some l->WpB P b assign (Exit.then (λe0 j0=> ∃i0,(Instr.beginRound l).run P j0= .ok () i0/\WpB P b body (aAL P l R) e0 i0) (λe a w=> ∃ch,e= .panic ch/\a.defers= []/\R (.panicked ch) w)) {tmps:=tmps,defers:= []} w):
 RoundIn Fence.wide 0 P l f tmps assign body w R:=by
 refine⟨trivial,λc cs _=> ?_⟩
 let b:Frame:={(default:Frame) with fn:=f,kind:= .normal,roundOf:=some l}
 have q0:Frame.round l f tmps assign body .normal=b.atR {tmps:=tmps,defers:= []} [.code assign, .beginRound, .code body]:=by
  simp[Frame.round,Frame.atR,b]
 have one: ∀{m m':Machine},step P m= .next m'->StepsIn (Machine.fenced P Fence.wide) P m m':=λh=> .one (fenced_wide _ _) h
 have pan: ∀{m:Machine} {a:Act} {w:World} {ch:List PanicEntry} {g0:List Item},a.defers= []->R (.panicked ch) w->StepsIn (Machine.fenced P Fence.wide) P m (lone {b.atR a g0 with mode:= .panicking ch} (c::cs) w)->
  ∃e w',R e w'/\ComesIn (Machine.fenced P Fence.wide) P m (match e with
   | .returned v=>lone (c.finish v) cs w'
   | .panicked chain=>lone (c.raise chain) cs w'
   | .outgrown=>lone c cs w') e:=λ{m a w ch g0} hd hR hs=>
  ⟨.panicked ch,w,hR,StepsIn.trans hs (one (step_leave_panicked ⟨rfl,hd,fn,hf⟩))⟩
 obtain⟨e,e0,j0,hq,N⟩:=h b rfl rfl [.beginRound, .code body] (c::cs);rw[<-q0] at N;cases e with
 |normal=>
  obtain⟨i0,u0,l0⟩:=hq;have s1:StepsIn (Machine.fenced P Fence.wide) P (lone (b.atR e0 [.beginRound, .code body]) (c::cs) j0) (lone (b.atR e0 [.code body]) (c::cs) i0):=one (stepR_beginRound rfl u0);obtain⟨n0,v0,w0,H,J⟩:=l0 [] (c::cs);cases n0 with
  |normal=>
   obtain⟨v,a0,Y,hR⟩:=H;exact⟨.returned v,a0,hR,(StepsIn.trans N s1).trans (StepsIn.trans J (one (stepR_round_end rfl rfl Y)))⟩
  |ret=>
   obtain⟨v,a0,Y,hR⟩:=H;obtain⟨o0,hs⟩:=J.2 rfl;exact⟨.returned v,a0,hR,(StepsIn.trans N s1).trans (StepsIn.trans hs (one (stepR_round_ret rfl rfl Y)))⟩
  |exit id=>
   obtain⟨v,a0,Y,hR⟩:=H;obtain⟨o0,hk,hs⟩:=J.2 rfl rfl;exact⟨.returned v,a0,hR,(StepsIn.trans N s1).trans (StepsIn.trans hs (one (stepR_round_exit rfl rfl hk Y)))⟩
  |panic chain=>
   obtain⟨g0,hs⟩:=J;exact pan H.1 H.2 ((StepsIn.trans N s1).trans hs)
  |goto t=>exact H.elim
  |outgrown=>exact H.elim
 |panic chain=>
  obtain⟨ch,e,hd,hR⟩:=hq;cases e;obtain⟨g0,hs⟩:=N;exact pan hd hR hs
 |_=>obtain⟨ch,e,_⟩:=hq;cases e
def aAM (P:Program) (b:Frame) (l:Nat) (Q:zdN) (N:Act):Ending->World->Prop
 | .returned _,H=> ∃jump J,(Instr.endLoop l).run P H= .ok jump J/\
    (match jump with
     |none=>Q .normal N J
     |some c=>WpB P b c Q N J)
 | .panicked chain,H=>Q (.panic chain) N H
 | .outgrown,_=>False
variable {args:Array Value}
theorem WpB.range {b:Frame} {g:Operand} {ps:Array Tmp} {Q:zdN} {a:Act} {w w₁ w₁' w₂:World} {mark:List Deferred} {d:Deferred} 
 (he:(Instr.enterLoop b.fn a.tmps ps assign body b.roundOf).run P w= .ok (l,mark) w₁) (g0:(resolve a.eval (rangeCall g l) 0).run P w₁= .ok d w₁') (e0:(invoke d.target d.args).run P w₁'= .ok (.enter f args) w₂)
 (N:Calls P f args w₂ (aAM P b l Q {a with defers:=mark++a.defers})):WpB P b (.rangeFunc g ps assign body) Q a w:=by
 intro k cs;have henter:=stepR_rangeFunc (P:=P) (b:=b) (a:=a) (k:=k) (cs:=cs) (w:=w) he g0 e0;have one: ∀{m m':Machine},step P m= .next m'->StepsIn (Machine.fenced P Fence.wide) P m m':=λh=> .one (fenced_wide _ _) h
 obtain⟨e,i0,fr,hR,hsteps,n0,hleave⟩:=N (b.atR {a with defers:=mark++a.defers} (.inRangeFunc l::k)::cs);cases e with
 |outgrown=>exact hR.elim
 |returned v=>
  obtain⟨jump,J,a0,hj⟩:=hR;have H:StepsIn (Machine.fenced P Fence.wide) P (lone (b.atR a (.code (.rangeFunc g ps assign body)::k)) cs w) (lone (b.atR {a with defers:=mark++a.defers} ((jump.map Item.code).toList++k)) cs J):=by
   refine StepsIn.trans (one henter) (StepsIn.trans (stepsIn_wide.2 hsteps) (StepsIn.trans (one ?_) (one (stepR_endRangeFunc a0))));rw[<-finish_atR_inRangeFunc l v];exact step_leave_returned hleave
  cases jump with
  |none=>exact⟨.normal,_,J,hj,H⟩
  |some c=>
   obtain⟨e',l0,j0,hq,Y⟩:=hj k cs;exact⟨e',l0,j0,hq, .of_steps H Y⟩
 |panicked chain=>
  refine⟨.panic chain,_,i0,hR, .inRangeFunc l::k,StepsIn.trans (one henter) (StepsIn.trans (stepsIn_wide.2 hsteps) (one ?_))⟩;rw[<-Frame.raise_atR];exact step_leave_panicked hleave
def ayQ (P:Program) (fn:Func) (tmps:Array Value) (R:Ending->World->Prop):List Deferred->FrameMode->World->Prop
 | [],u,w=>Leaves P fn tmps R [] u w
 |d::H,u,w=> ∃r w',d.target= .collected r/\(Instr.takeDeferred r).run P w= .ok [] w'/\ayQ P fn tmps R H u w'
theorem aI1 {fn:Func} {tmps:Array Value} {R:Ending->World->Prop}: ∀(N:List Deferred) (u:FrameMode) (w:World) (fr:Frame) (cs:List Frame),u≠ .run->fr.mode=u->fr.defers=N->fr.tmps=tmps->P.funcs[fr.fn]? =some fn->fr.kind= .normal->ayQ P fn tmps R N u w->
 ∃e w' H,R e w'/\Comes P (lone fr cs w) (lone H cs w') e/\H.fn=fr.fn/\H.leaving P w' e
 | [],u,w,fr,cs,_,hu,hd,ht,hf,hk,h=>leaves_steps [] u w fr cs hu hd ht hf hk h
 |d::N,u,w,fr,cs,hr,hu,hd,ht,hf,hk,⟨r,w',a0,J,h⟩=>by
  have h1:=step_collected (cs:=cs) (hu▸hr) hd a0 J;obtain⟨e',j0,H,e0,i0,Y,g0⟩:=aI1 N u w' {fr with defers:= []++N} cs hr hu rfl ht hf hk h;exact⟨e',j0,H,e0,Comes.of_steps (.one h1) i0,Y,g0⟩
def ayf (P:Program) (fn:Func) (tmps:Array Value) (R:Ending->World->Prop) (H:List Deferred) (u:FrameMode) (w:World):Prop:=Leaves P fn tmps R H u w\/ayQ P fn tmps R H u w
def aBr (P:Program) (fn:Func) (R:Ending->World->Prop):zdN
 | .normal,a,w| .ret,a,w=>ayf P fn a.tmps R a.defers .returning w
 | .panic chain,a,w=>ayf P fn a.tmps R a.defers (.panicking chain) w
 |_,_,_=>False
theorem azP {c:Code} {w:World} (hf:P.funcs[f]? =some fn) (hb:fn.body=some c)
 (h: ∀b:Frame,b.fn=f->b.roundOf=none->WpB P b c (aBr P fn R) {tmps:=args++Array.replicate (fn.ntmps - args.size) undef,defers:= []} w):Calls P f args w R:=by
 intro cs
 let b:Frame:={(default:Frame) with fn:=f,kind:= .normal,roundOf:=none}
 have henter:Frame.enter P f args .normal=b.atR {tmps:=args++Array.replicate (fn.ntmps - args.size) undef,defers:= []} [.code c]:=by
  simp[Frame.enter,Frame.atR,hf,hb,b]
 have out: ∀(ds:List Deferred) (u:FrameMode) (w:World) (fr:Frame),u≠ .run->fr.mode=u->fr.defers=ds->P.funcs[fr.fn]? =some fn->fr.kind= .normal->ayf P fn fr.tmps R ds u w->
  ∃e w' H,R e w'/\Comes P (lone fr cs w) (lone H cs w') e/\H.fn=fr.fn/\H.leaving P w' e:=λds u w fr hr hu hd hf hk h=>
  h.elim (λh=>leaves_steps ds u w fr cs hu hd rfl hf hk h) (λh=>aI1 ds u w fr cs hr hu hd rfl hf hk h)
 obtain⟨e,a',w',hq,N⟩:=h b rfl rfl [] cs;rw[<-henter] at N;cases e with
 |normal=>
  obtain⟨e',e0,H,hR,hs,Y,hl⟩:=out a'.defers .returning w' {b.atR a' [] with mode:= .returning} (by simp) rfl rfl hf rfl hq;exact⟨e',e0,H,hR,Comes.of_steps (Steps.trans (StepsIn.steps N) (.one (stepR_end rfl))) hs,Y,hl⟩
 |ret=>
  obtain⟨a0,J⟩:=N.1 rfl;obtain⟨e',e0,H,hR,hs,Y,hl⟩:=out a'.defers .returning w' {b.atR a' a0 with mode:= .returning} (by simp) rfl rfl hf rfl hq;exact⟨e',e0,H,hR,Comes.of_steps (StepsIn.steps J) hs,Y,hl⟩
 |panic chain=>
  obtain⟨a0,J⟩:=N;obtain⟨e',e0,H,hR,hs,Y,hl⟩:=out a'.defers (.panicking chain) w' {b.atR a' a0 with mode:= .panicking chain} (by simp) rfl rfl hf rfl hq;exact⟨e',e0,H,hR,Comes.of_steps (StepsIn.steps J) hs,Y,hl⟩
 |exit id=>exact hq.elim
 |goto l=>exact hq.elim
 |outgrown=>exact hq.elim
end
section
inductive TV where
 |dead
 |v (s:SV)
 |opt (t:Nat) (b:Bool) (s:SV)
structure AS where
 tm:Nat->TV
 bl:Nat->Option Blk
 nx:Nat
 nt:Nat
 wl:List Nat
 og:Nat->Bool
 ok:Nat->Bool
 df:List (FuncId×List SV×List SV):= []
 lit:List Nat:= []
 hq:Bool:=false
 sd:Option BD×Option (Nat×ByteArray):=(none,none)
def AS.put (A:AS) (d:Nat) (v:TV):AS:={A with tm:=λt=>bif Nat.beq t d then v else A.tm t}
def DC:List (Nat×Bool)->Nat->Bool->Bool
 | [],_,_=>false
 |(t,b)::r,u,c=>bif (Nat.beq t u&&(bif b then c else !c)) then true else DC r u c
def Xw (tm:Nat->TV):Nat->Nat->Bool->List (Nat×Bool)
 |0,_,_=> []
 |k+1,t,b=>(t,b)::match tm t with
  | .opt J H _=>Xw tm k J H
  |_=> []
def ev (tm:Nat->TV) (G:List (Nat×Bool)):Operand->Option SV
 | .tmp t=>match tm t with
   | .v s=>some s
   | .opt H b s=>bif DC G H b then some s else none
   | .dead=>none
 | .const c=>some (ofV c)
 | .global g=>some (.val (.pointer (some ⟨g,0,none⟩)))
 | .func f=>some (.fn (.func f) [] [])
def kO (tm:Nat->TV):Nat->Nat->Bool->Option Bool
 |0,_,_=>none
 |k+1,t,b=>match tm t with
  | .v (.val (.bool c))=>some (bif b then c else !c)
  | .opt J H (.val (.bool c))=>match kO tm k J H with
    |some g=>some (g&&(bif b then c else !c))
    |none=>none
  |_=>none
structure Eff where
 need:Bool:=true
 out:SV
 rd:List Nat:= []
 wr:Option (Nat×Nat×Nat×List SV):=none
 nw:Option Blk:=none
abbrev Ctr:=List SV->Option (Bool×SV)
inductive Res where
 |ok (s:SV)
 |pan (v:Value)
structure RC where
 X:Type
 pre:Bool
 spec:X->Prop
 out:X->SV
 nw:X->List Blk:=λ_=> []
 pan:X->Option Value:=λ_=>none
 ch:X->List (Nat×Blk):=λ_=> []
 ex:pre=true-> ∃x,spec x
def RC.res (C:RC) (x:C.X):Res:=match C.pan x with
 |none=> .ok (C.out x)
 |some v=> .pan v
abbrev DCtr:=Option Value->(zdL)->List SV->Option (Bool×Option Value×List (Nat×Blk))
abbrev MCtr:=(zdL)->Nat->List SV->Option RC
def xW (P:Program) (t:TypeId):Option Bool:=
 match P.underlying t with
 |some (.struct _)=>some true
 |some (.array _ _)=>some true
 |some _=>some false
 |none=>none
def szT (P:Program) (t:TypeId):Option Nat:=(P.info? t).map (·.size)
def kj (P:Program) (t:TypeId) (cs:zdJ) (off:Nat):Option SV:=
 match xW P t,szT P t with
 |some true,some n=>some (.agg ((cs.drop off).take n))
 |some false,_=>cs[off]?
 |_,_=>none
def Pl:IntKind->Nat
 | .i8=>0| .i16=>1| .i32=>2| .i64=>3| .u8=>4| .u16=>5| .u32=>6| .u64=>7
def kEq (k l:IntKind):Bool:=Nat.beq (Pl k) (Pl l)
variable {k:IntKind}
theorem rF {l:IntKind} (h:kEq k l=true):k=l:=by
 cases k<;>cases l<;>first|rfl|(exact absurd h (by decide))
def kLo:IntKind->Int
 | .i8=> -128| .i16=> -32768| .i32=> -2147483648| .i64=> -9223372036854775808|_=>0
def kHi:IntKind->Int
 | .i8=>127| .i16=>32767| .i32=>2147483647| .i64=>9223372036854775807
 | .u8=>255| .u16=>65535| .u32=>4294967295| .u64=>18446744073709551615
def inR (k:IntKind) (z:Int):Bool:=decide (kLo k<=z)&&decide (z - kHi k<=0)
variable {z:Int}
theorem Wl:inR k z=true↔kLo k<=z/\z<=kHi k:=by
 simp only[inR,za2,zdt];omega
theorem g9 (h:inR k z=true):k.wrap z=z:=by
 obtain⟨h1,h2⟩:=Wl.1 h;clear h;unfold IntKind.wrap;cases k<;>simp[IntKind.bits,IntKind.signed,kLo,kHi] at h1 h2 ⊢ <;>first
  |omega
  |(split<;>omega)
def aA7 (k:IntKind) (n:Int):Bool×Int:=match k with
 | .u8=>(true,IntKind.u8.wrap n)
 |k=>(inR k n,n)
theorem aBU {n:Int} (h:(aA7 k n).1=true):k.wrap n=(aA7 k n).2:=by
 cases k<;>first|rfl|exact g9 h
def seq (x y:zdG):Bool:=x.data.toList==y.data.toList
theorem F3 (x y:zdG):seq x y=(x.toList==y.toList):=by
 rw[ByteArray.toList_eq,ByteArray.toList_eq];rfl
theorem We {x y:zdG}:seq x y=true↔x=y:=by
 unfold seq;rw[zdx];constructor
 ·intro h;obtain⟨⟨a⟩⟩:=x;obtain⟨⟨b⟩⟩:=y;simp at h;rw[h]
 ·rintro rfl;rfl
def F4 (P:Program) (f:TypeId->SV->SV->Option Bool) (xs J:zdJ):List Field->Option Bool
 | []=>some true
 |H::fs=>bif decide (H.name= "_") then none else match kj P H.type xs H.offset,kj P H.type J H.offset with
  |some a,some b=>match f H.type a b,F4 P f xs J fs with
   |some p,some q=>some (p&&q)
   |_,_=>none
  |_,_=>none
def F5 (P:Program) (f:TypeId->SV->SV->Option Bool) (e s:Nat) (xs H:zdJ):Nat->Nat->Option Bool
 |0,_=>some true
 |n+1,i=>match kj P e xs (i*s),kj P e H (i*s) with
  |some a,some b=>match f e a b,F5 P f e s xs H n (i+1) with
   |some p,some q=>some (p&&q)
   |_,_=>none
  |_,_=>none
def eqS (P:Program):Nat->TypeId->SV->SV->Option Bool
 |0,_,_,_=>none
 |d+1,t,x,y=>match P.underlying t with
  |some .bool=>match x,y with
   | .val (.bool a), .val (.bool b)=>some (a==b)
   |_,_=>none
  |some (.int _)=>match x,y with
   | .val (.int k a), .val (.int J b)=>bif kEq k J then some (a==b) else none
   |_,_=>none
  |some .string=>match x,y with
   | .val (.string a), .val (.string b)=>some (seq a b)
   |_,_=>none
  |some (.struct fs)=>match x,y with
   | .agg xs, .agg H=>bif P.stoodInHeld t then none else F4 P (eqS P d) xs H fs.toList
   |_,_=>none
  |some (.array n e)=>match x,y with
   | .agg xs, .agg H=>match szT P e with
     |some s=>F5 P (eqS P d) e s xs H n 0
     |none=>none
   |_,_=>none
  |_=>none
def J7 (op:BinOp) (k H:IntKind) (a b:Int):Option (Bool×SV):=
 match op with
 | .shl=>some (decide (0<=b)&&inR k (a*2^(min b.toNat k.bits)), .val (.int k (a*2^(min b.toNat k.bits))))
 | .shr=>some (decide (0<=b), .val (.int k (a.fdiv (2^(min b.toNat k.bits)))))
 |op=>bif kEq k H then(match op with
  | .add=>some (inR k (a+b), .val (.int k (a+b)))
  | .sub=>some (inR k (a - b), .val (.int k (a - b)))
  | .mul=>some (inR k (a*b), .val (.int k (a*b)))
  | .quo=>some (!decide (b=0)&&inR k (a.tdiv b), .val (.int k (a.tdiv b)))
  | .rem=>some (!decide (b=0), .val (.int k (a.tmod b)))
  | .eql=>some (true, .val (.bool (a==b)))
  | .neq=>some (true, .val (.bool (a !=b)))
  | .lss=>some (true, .val (.bool (decide (a<b))))
  | .leq=>some (true, .val (.bool (decide (a<=b))))
  | .gtr=>some (true, .val (.bool (decide (a>b))))
  | .geq=>some (true, .val (.bool (decide (a≥b))))
  | .or=>match k with
    | .i64=>some (decide (0<=a)&&decide (0<=b)&&(inR .i64 a&&inR .i64 b), .val (.int .i64 ((a.toNat|||b.toNat:Nat):Int)))
    |_=>none
  |_=>none) else none
def wk (op:BinOp) (a b:zdG):Option (Bool×SV):=
 match op with
 | .add=>some (decide (a.size+b.size<=9223372036854775807), .val (.string (a++b)))
 | .eql=>some (true, .val (.bool (seq a b)))
 | .neq=>some (true, .val (.bool (!seq a b)))
 | .lss=>some (true, .val (.bool (Op.bytesLess a.data.toList b.data.toList)))
 | .gtr=>some (true, .val (.bool (!(Op.bytesLess a.data.toList b.data.toList||seq a b))))
 | .leq=>some (true, .val (.bool (Op.bytesLess a.data.toList b.data.toList||seq a b)))
 | .geq=>some (true, .val (.bool (!Op.bytesLess a.data.toList b.data.toList)))
 |_=>none
def DD (P:Program) (op:BinOp) (t:TypeId) (x y:SV):Option (Bool×SV):=
 match op,eqS P 9 t x y with
 | .eql,some b=>some (true, .val (.bool b))
 | .neq,some b=>some (true, .val (.bool (!b)))
 |_,_=>none
def Kt (P:Program) (op:BinOp) (t:TypeId) (b:Bool):Option (Bool×SV):=match P.underlying t,op with
 |some (.interface _), .eql=>some (true, .val (.bool b))
 |some (.interface _), .neq=>some (true, .val (.bool (!b)))
 |_,_=>none
def J8 (P:Program) (op:BinOp) (t:TypeId) (x y:SV):Option (Bool×SV):=
 match x,y with
 | .val (.int k a), .val (.int H b)=>J7 op k H a b
 | .val (.string a), .val (.string b)=>wk op a b
 | .val (.bool _), .val (.bool _)=>DD P op t x y
 | .agg _, .agg _=>bif P.eqGuardType P.depth t then none else DD P op t x y
 |_,_=>none
def agm (P:Program) (op:BinOp) (t:TypeId) (z:Operand) (x y:SV):Option (Bool×SV):=match z,x with
 | .const .nilIface, .val .nilIface=>Kt P op t true
 | .const .nilIface, .val (.iface _ _)=>Kt P op t false
 |_,_=>J8 P op t x y
def unS (op:UnOp) (x:SV):Option (Bool×SV):=
 match op,x with
 | .neg, .val (.int k n)=>some (inR k (-n), .val (.int k (-n)))
 | .not, .val (.bool b)=>some (true, .val (.bool (!b)))
 |_,_=>none
def F6 (s:zdG) (i:Nat):Int:=
 match s.data.toList[i]? with
 |some b=>(b.toNat:Int)
 |none=>0
def oY:List SV->Option (List ByteArray)
 | []=>some []
 | .val (.string s)::r=>match oY r with
   |some l=>some (s::l)
   |none=>none
 |_=>none
def F7:List ByteArray->Nat->zdG
 | [],_=>⟨#[]⟩
 |s::_,0=>s
 |_::r,i+1=>F7 r i
def oZ (k:IntKind):List SV->Option (List Int)
 | []=>some []
 | .val (.int H z)::r=>bif kEq H k then(match oZ k r with
   |some l=>some (z::l)
   |none=>none) else none
 |_=>none
def F8:List Int->Nat->Int
 | [],_=>0
 |s::_,0=>s
 |_::r,i+1=>F8 r i
def Nu (P:Program) (el:TypeId) (cs:zdJ) (i s:Nat):Option SV:=
 match oY cs with
 |some l=>some (.val (.string (F7 l i)))
 |none=>match oZ .i64 cs with
  |some l=>some (.val (.int .i64 (F8 l i)))
  |none=>kj P el cs (i*s)
def je (r:zdJ) (s:Nat):zdM:=bif Nat.beq s 1 then(match oY r with
 |some l=>λe=> [.val (.string (F7 l e))]
 |none=>match oZ .i64 r with
  |some l=>λe=> [.val (.int .i64 (F8 l e))]
  |none=>λe=>(r.drop (e*s)).take s) else λe=>(r.drop (e*s)).take s
def F9 (n:Nat) (lo hi:Option SV):Option (Bool×Nat×Nat):=
 match lo,hi with
 |none,none=>some (true,0,n)
 |none,some (.val (.int _ h))=>some (decide (0<=h)&&decide (h<=n),0,h.toNat)
 |some (.val (.int _ l)),none=>some (decide (0<=l)&&decide (l<=n),l.toNat,n)
 |some (.val (.int _ l)),some (.val (.int _ h))=>some (decide (0<=l)&&decide (l<=h)&&decide (h<=n),l.toNat,h.toNat)
 |_,_=>none
def xX (P:Program) (t:TypeId):Option (zdJ):=((P.info? t).bind (·.zero)).map λv=>v.cells.toList.map SV.val
def rG (H:Nat->Option (Nat×Nat)) (cells:zdJ):List (Nat×SV)->Option (zdJ)
 | []=>some cells
 |(i,v)::rest=>
  match H i with
  |none=>none
  |some (off,size)=>
   bif Nat.beq v.cells.length size&&Nat.ble (off+v.cells.length) cells.length then rG H (gZ cells off v.cells) rest else none
def fieldAt (P:Program) (t:TypeId) (i:Nat):Option Field:=
 match P.underlying t with
 |some (.struct fs)=>fs.toList[i]?
 |_=>none
def nM (P:Program):List Field->Option (List (Nat×Nat))
 | []=>some []
 |f::fs=>match szT P f.type,nM P fs with
  |some s,some r=>some ((f.offset,s)::r)
  |_,_=>none
def evs (tm:Nat->TV) (G:List (Nat×Bool)):List Operand->Option (zdJ)
 | []=>some []
 |x::xs=>match ev tm G x,evs tm G xs with
  |some a,some r=>some (a::r)
  |_,_=>none
def dJ (tm:Nat->TV) (G:List (Nat×Bool)):List (Nat×Operand)->Option (List (Nat×SV))
 | []=>some []
 |(i,x)::xs=>match ev tm G x,dJ tm G xs with
  |some (.val (.agg _)),_=>none
  |some a,some r=>some ((i,a)::r)
  |_,_=>none
def kP (get:zdM):Nat->Nat->Option (List UInt8)
 |_,0=>some []
 |e,n+1=>match get e with
  | [.val (.int .u8 b)]=>match kP get (e+1) n with
    |some r=>some (UInt8.ofNat b.toNat::r)
    |none=>none
  |_=>none
def Ga (c:Bool) (x y:SV):Option SV:=
 match x,y with
 | .val (.bool p), .val (.bool q)=>some (.val (.bool (bif c then p else q)))
 |x,y=>some (bif c then x else y)
def avY (o:Option SV):Option Eff:=
 match o with
 |some s=>some {out:=s}
 |none=>none
def BZ:Option (Bool×SV)->Option (Bool×SV)
 |some p=>some p
 |none=>some (false, .val undef)
def pY (o:Option (Bool×SV)):Option Eff:=
 match o with
 |some (b,s)=>some {need:=b,out:=s}
 |none=>none
def Nv (P:Program) (t:TypeId) (x:SV):Option SV:=
 match P.underlying t,x with
 |some .string, .val (.string s)=>some (.val (.int .i64 s.size))
 |some (.array n _),_=>some (.val (.int .i64 n))
 |some (.slice _), .slc _ _ n=>some (.val (.int .i64 n))
 |some (.slice _), .val (.slice _ n _)=>some (.val (.int .i64 n))
 |_,_=>none
def mm (H:Bool) (x y:SV):Option SV:=
 match x,y with
 | .val (.int k a), .val (.int _ b)=>some (.val (.int k (bif H then(if b>a then b else a) else(if b<a then b else a))))
 |_,_=>none
def mms (H:Bool):SV->List SV->Option SV
 |x, []=>some x
 |x,y::r=>match mm H x y with
  |some z=>mms H z r
  |none=>none
def rH (P:Program) (bl:zdL) (t:TypeId) (x:SV):Option Eff:=
 match x with
 | .ptr id e o=>match bl id with
   |some B=>match B.kd with
    | .gone=>none
    |_=>match xW P t,szT P t with
     |some false,_=>match (B.get e)[o]? with
      |some s=>some {need:=decide (e<B.n),out:=s,rd:= [id]}
      |none=>none
     |some true,some n=>bif Nat.beq (((B.get e).drop o).take n).length n then some {need:=decide (e<B.n),out:= .agg (((B.get e).drop o).take n),rd:= [id]} else none
     |_,_=>none
   |none=>none
 |_=>none
def gpS (bl:zdL) (s:SV):SV:=match s with
 | .val (.pointer (some ⟨g,0,none⟩))=>match bl g with
   |some B=>match B.kd with
    | .glb=>bif B.nn then .ptr g 0 0 else s
    |_=>s
   |none=>s
 |_=>s
def o9 (P:Program) (bl:zdL) (t:TypeId) (x v:SV):Option Eff:=
 match x with
 | .ptr id e o=>match bl id with
   |some B=>match B.kd with
    | .own=>match szT P t with
      |some n=>bif Nat.beq v.cells.length n&&v.cells.all SV.one&&Nat.ble (o+v.cells.length) B.sz then some {need:=decide (e<B.n),out:= .val undef,wr:=some (id,e,o,v.cells)} else none
      |none=>none
    |_=>none
   |none=>none
 |_=>none
def ae2 (P:Program) (bl:zdL) (b:Builtin) (ts:Array TypeId) (args:zdJ):Option Eff:=
 match b with
 | .len=>match ts[0]?,args with
   |some t, [x]=>avY (Nv P t x)
   |_,_=>none
 | .max=>match args with
   |x::r=>avY (mms true x r)
   | []=>none
 | .min=>match args with
   |x::r=>avY (mms false x r)
   | []=>none
 |_=>none
def target (tm:Nat->TV) (G:List (Nat×Bool)) (c:Call):Option (FuncId×List SV):=
 match c.callee with
 | .value f=>match ev tm G f,evs tm G c.args.toList with
   |some (.fn (.func g) first caps),some args=>some (g,first++args++caps)
   |_,_=>none
 |_=>none
def keq (P:Program) (t:TypeId) (x y:SV):Option Bool:=
 match P.underlying t,x,y with
 |some (.int k0), .val (.int k a), .val (.int H b)=>bif kEq k H&&kEq k0 k then some (a==b) else none
 |some .string, .val (.string a), .val (.string b)=>some (seq a b)
 |_,_,_=>none
def Aa (get:zdM):Nat->Nat->Option (List (SV×SV))
 |0,_=>none
 |n+1,e=>match get e with
  | []=>some []
  | [k,v]=>(Aa get n (e+1)).map ((k,v):: ·)
  |_=>none
def Gb (P:Program) (t:TypeId) (k:SV):List (SV×SV)->Option Bool
 | []=>some true
 |(H,_)::r=>match keq P t k H,Gb P t k r with
  |some b,some c=>some (!b&&c)
  |_,_=>none
def MS:Value->Bool
 | .int .i64 n=>n==0
 |_=>false
def MT:Value->Bool
 | .bool b=> !b
 |_=>false
def am5 (ok:Bool) (v:SV) (b:Bool):SV:=bif ok then .tup [v, .val (.bool b)] else v
def xY (P:Program) (t:TypeId) (k:SV):List (SV×SV)->Option (Option SV)
 | []=>some none
 |(H,v)::r=>match keq P t k H with
  |some b=>bif b then some (some v) else xY P t k r
  |none=>none
def DE (P:Program) (hq:Bool) (bl:zdL) (t:TypeId) (m k:SV) (ok:Bool):Option Eff:=
 match P.underlying t,m with
 |some (.map H J), .mp i=>match bl i,(P.info? J).bind (·.zero) with
  |some B,some z=>match B.kd with
   | .mpL=>match Aa B.get 64 0,keq P H k k with
     |some l,some _=>bif hq then(match Gb P H k l with
       |some b=>some {need:=b,out:=am5 ok (ofV z) false,rd:= [i]}
       |none=>none) else match xY P H k l with
      |some (some v)=>some {out:=am5 ok v true,rd:= [i]}
      |some none=>some {out:=am5 ok (ofV z) false,rd:= [i]}
      |none=>none
     |_,_=>none
   | .mpI=>match P.underlying H,k with
     |some (.int .i64), .val (.int .i64 k)=>some {need:= !ok&&decide (0<=k)&&MS z,out:= .val (.int .i64 (iG (B.get k.toNat))),rd:= [i]}
     |_,_=>none
   | .mpB=>match P.underlying H,k with
     |some (.int .i64), .val (.int .i64 k)=>some {need:= !ok&&decide (0<=k)&&MT z,out:= .val (.bool (su (B.get k.toNat))),rd:= [i]}
     |_,_=>none
   |_=>none
  |_,_=>none
 |_,_=>none
abbrev _root_.zdP:=FuncId->Option Ctr
def eff (P:Program) (Γ:zdP) (hq:Bool) (tm:Nat->TV) (bl:zdL) (G:List (Nat×Bool)) (id:Nat) (op:Op):Option Eff:=
 match op with
 | .move x=>avY (ev tm G x)
 | .assign x=>avY (ev tm G x)
 | .pick c x y=>match c with
   | .tmp t=>match ev tm G c with
     |some (.val (.bool b))=>match ev tm ((t,true)::G) x,ev tm ((t,false)::G) y with
      |some x,some y=>avY (Ga b x y)
      |_,_=>none
     |_=>none
   |_=>none
 | .alloc t=>match xX P t with
   |some cs=>some {out:= .ptr id 0 0,nw:=some {n:=1,sz:=cs.length,get:=λ_=>cs,kd:= .own}}
   |none=>none
 | .box _ x=>match ev tm G x with
   |some (.val (.agg _))=>none
   |some v=>some {out:= .ptr id 0 0,nw:=some {n:=1,sz:=v.cells.length,get:=λ_=>v.cells,kd:= .own}}
   |none=>none
 | .build t parts=>match xX P t,dJ tm G parts.toList with
   |some cs,some ps=>match P.underlying t with
    |some (.struct fs)=>match nM P fs.toList with
     |some J=>match rG (λi=>J[i]?) cs ps with
      |some r=>some {out:= .agg r}
      |none=>none
     |none=>none
    |some (.array _ e)=>match szT P e with
     |some s=>match rG (λi=>some (i*s,s)) cs ps with
      |some r=>some {out:= .agg r}
      |none=>none
     |none=>none
    |_=>none
   |_,_=>none
 | .buildSlice t n parts=>match P.underlying t,dJ tm G parts.toList with
   |some (.slice e),some ps=>match szT P e,xX P e with
    |some s,some z=>bif Nat.beq z.length s&&Nat.ble (n*s) 16777216&&Nat.ble 1 s then
      match rG (λi=>some (i*s,s)) (List.replicate n z).flatten ps with
      |some r=>some {out:= .slc id 0 n,nw:=some {n:=n,sz:=s,get:=je r s,kd:= .own}}
      |none=>none
     else none
    |_,_=>none
   |_,_=>none
 | .load t x=>match ev tm G x with
   |some a=>rH P bl t (gpS bl a)
   |none=>none
 | .store t x y=>match ev tm G x,ev tm G y with
   |some a,some v=>o9 P bl t a v
   |_,_=>none
 | .nilCheck x=>match ev tm G x with
   |some (.ptr i e o)=>some {out:= .ptr i e o}
   |some (.fn (.func f) a c)=>some {out:= .fn (.func f) a c}
   |_=>none
 | .binOp op t x y _=>match ev tm G x,ev tm G y with
   |some a,some b=>pY (BZ (agm P op t y a b))
   |_,_=>none
 | .unOp op _ x=>match ev tm G x with
   |some a=>pY (BZ (unS op a))
   |none=>none
 | .convert src dst x=>match ev tm G x with
   |some (.val (.int k n))=>match P.underlying src,P.underlying dst with
    |some _,some (.int H)=>some {need:=(aA7 H n).1,out:= .val (.int H (aA7 H n).2)}
    |_,_=>none
   |some (.val (.string s))=>match P.underlying src,P.underlying dst with
    |some _,some .string=>some {out:= .val (.string s)}
    |some _,some (.slice el)=>match P.underlying el with
     |some (.int .u8)=>some {out:= .slc id 0 s.size,nw:=some {n:=s.size,sz:=1,get:=λe=> [.val (.int .u8 (F6 s e))],kd:= .own}}
     |_=>none
    |_,_=>none
   |some (.slc i e n)=>match P.underlying src,P.underlying dst,bl i with
    |some (.slice el),some .string,some B=>match P.underlying el,B.kd with
     |some (.int .u8), .own=>match kP B.get e n with
      |some r=>bif Nat.beq B.sz 1&&B.nn&&Nat.beq e 0 then some {need:=decide (e+n<=B.n),out:= .val (.string ⟨r.toArray⟩),rd:= [i]} else none
      |none=>none
     |_,_=>none
    |_,_,_=>none
   |_=>none
 | .makeFunc f a c=>match evs tm G a.toList,evs tm G c.toList with
   |some a,some c=>some {out:= .fn f a c}
   |_,_=>none
 | .slice t x lo hi none=>match ev tm G x,P.underlying t with
   |some (.val (.string s)),some .string=>match F9 s.size (lo.bind (ev tm G)) (hi.bind (ev tm G)) with
    |some (b,l,h)=>bif (lo.isSome==(lo.bind (ev tm G)).isSome)&&(hi.isSome==(hi.bind (ev tm G)).isSome) then some {need:=b,out:= .val (.string (s.extract l h))} else none
    |none=>none
   |some (.slc id e n),some (.slice el)=>match F9 n (lo.bind (ev tm G)) (hi.bind (ev tm G)),bl id,szT P el with
    |some (b,l,h),some B,some s=>match B.kd with
     | .gone=>none
     |_=>bif (lo.isSome==(lo.bind (ev tm G)).isSome)&&(hi.isSome==(hi.bind (ev tm G)).isSome)&&Nat.beq s B.sz then
       some {need:=b&&decide (e+n<=B.n)&&(bif Nat.beq e 0||Nat.beq l 0 then true else decide (e+l<B.n)),out:= .slc id (e+l) (h - l),rd:= [id]} else none
    |_,_,_=>none
   |_,_=>none
 | .fieldAddr t x i=>match ev tm G x,fieldAt P t i with
   |some (.ptr id e o),some f=>match szT P f.type with
    |some (_+1)=>some {out:= .ptr id e (o+f.offset)}
    |_=>none
   |_,_=>none
 | .field t x i=>match ev tm G x,fieldAt P t i with
   |some (.agg cs),some f=>avY (kj P f.type cs f.offset)
   |_,_=>none
 | .indexAddr t x i=>match ev tm G x,ev tm G i with
   |some (.ptr id e o),some (.val (.int _ i))=>match P.underlying t with
    |some (.array n el)=>match szT P el with
     |some s=>some {need:=decide (0<=i)&&decide (i<n),out:= .ptr id e (o+i.toNat*s)}
     |none=>none
    |_=>none
   |some (.slc id e n),some (.val (.int _ i))=>match P.underlying t,bl id with
    |some (.slice el),some B=>match szT P el,B.kd with
     |some _, .gone=>none
     |some s,_=>bif Nat.beq s B.sz then some {need:=(bif B.nn&&Nat.beq e 0 then decide (0<=i)&&decide (i<n) else decide (0<=i)&&decide (i<n)&&decide (e+i.toNat<B.n)),out:= .ptr id (e+i.toNat) 0,rd:= [id]} else none
     |none,_=>none
    |_,_=>none
   |some (.val (.pointer (some ⟨g,0,none⟩))),some (.val (.int _ i))=>match P.underlying t,bl g with
    |some (.array n el),some B=>match szT P el,B.kd with
     |some s, .glb=>bif Nat.beq s B.sz&&B.nn then some {need:=decide (0<=i)&&decide (i<n),out:= .ptr g i.toNat 0,rd:= [g]} else none
     |_,_=>none
    |_,_=>none
   |_,_=>none
 | .index t x i=>match ev tm G x,ev tm G i with
   |some (.agg cs),some (.val (.int _ i))=>match P.underlying t with
    |some (.array n el)=>match szT P el with
     |some 1=>match xW P el with
      |some false=>bif Nat.beq cs.length n then(match Nu P el cs i.toNat 1 with
       |some v=>some {need:=decide (0<=i)&&decide (i<n),out:=v}
       |none=>none) else none
      |_=>none
     |some s=>match kj P el cs (i.toNat*s) with
      |some v=>some {need:=decide (0<=i)&&decide (i<n),out:=v}
      |none=>none
     |none=>none
    |_=>none
   |some (.val (.string s)),some (.val (.int _ i))=>match P.underlying t with
    |some .string=>some {need:=decide (0<=i)&&decide (i<s.size),out:= .val (.int .u8 (F6 s i.toNat))}
    |_=>none
   |_,_=>none
 | .lookup t m k ok=>match ev tm G m,ev tm G k with
   |some m,some k=>DE P hq bl t m k ok
   |_,_=>none
 | .extract x i=>match ev tm G x with
   |some (.tup vs)=>avY vs[i]?
   |_=>none
 | .call c=>match c.callee with
   | .builtin b=>match evs tm G c.args.toList with
     |some args=>ae2 P bl b c.argTypes args
     |none=>none
   |_=>match target tm G c with
    |some (f,args)=>match Γ f with
     |some k=>pY (k args)
     |none=>none
    |none=>none
 |_=>none
def VO (bl:zdL) (id:Nat) (E:Eff):zdL:=
 let bl:=match E.wr with
  |some (i,e,o,cs)=>match bl i with
   |some B=>upd bl i (B.put e o cs)
   |none=>bl
  |none=>bl
 match E.nw with
 |some B=>upd bl id B
 |none=>bl
end
section
def ah (b:Bool) (K:Prop):Prop:=match b with
 |true=>K
 |false=>False
def ag (b:Bool) (p q:Prop):Prop:=match b with
 |true=>p
 |false=>q
def dC (g n:Bool):Bool:=match n with
 |true=>true
 |false=> !g
abbrev li:=List Nat×List Nat
def wrI (E:Eff):zdH:=match E.wr with
 |some (i,_,_,_)=> [i]
 |none=> []
def nwI (id:Nat) (E:Eff):zdH:=match E.nw with
 |some _=> [id]
 |none=> []
def aV (id:Nat) (E:Eff):li:=(E.rd,wrI E++nwI id E)
def putD (A:AS) (d:Option Tmp) (v:TV):Option AS:=
 match d with
 |none=>some A
 |some d=>bif Nat.blt d A.nt&& !A.ok d then some (A.put d v) else none
def putG (A:AS) (d:Option Tmp) (t:Nat) (b:Bool) (s:SV):Option AS:=
 match d with
 |none=>some A
 |some d=>bif Nat.blt d A.nt&& !A.ok d&& !Nat.beq d t then some {A.put d (.opt t b s) with og:=λx=>bif Nat.beq x d then true else A.og x,ok:=λx=>bif Nat.beq x t then true else A.ok x} else none
def fresh (A:AS) (id:Nat):Bool:=match A.bl id with
 |none=>true
 |some _=>false
def step (P:Program) (Γ:zdP) (ops:zdO) (id:Nat) (o:Oper) (A:AS):Option (Bool×AS×li):=
 match o.guard with
 |none=>match eff P Γ A.hq A.tm A.bl [] id o.op with
  |some E=>bif fresh A id then match putD {A with bl:=VO A.bl id E} o.dst (.v E.out) with
   |some A'=>some (E.need,A',aV id E)
   |none=>none
   else none
  |none=>none
 |some (j,b)=>match (ops.toList[j]?).bind (·.dst) with
  |some t=>match kO A.tm 9 t b,eff P Γ A.hq A.tm A.bl (Xw A.tm 9 t b) id o.op with
   |some g,some E=>match E.wr,E.nw with
    |none,none=>bif fresh A id then match putG A o.dst t b E.out with
     |some A'=>some (dC g E.need,A',aV id E)
     |none=>none
     else none
    |_,_=>none
   |_,_=>none
  |none=>none
def jT (x y:zdH):Bool:=x.any λa=>y.any (Nat.beq a)
def pZ (f g:li):Bool:=jT f.2 g.1||jT f.2 g.2||jT f.1 g.2
def Ab (m x:Nat):Bool:=Nat.beq (Nat.land (Nat.shiftRight m x) 1) 1
def rJ (f:Nat->Nat):List Edge->Nat
 | []=>0
 |e::r=>Nat.lor (bif Region.binds .any e then Nat.lor (Nat.shiftLeft 1 e.on) (f e.on) else 0) (rJ f r)
def xZ:List Oper->Nat->List Nat->zdH
 | [],_,H=>H
 |o::r,i,H=>xZ r (i+1) (rJ (λj=>bif Nat.blt j i then H.getD (i - 1 - j) 0 else 0) o.after.toList::H)
def bK (ops:List Oper) (k i x:Nat):Bool:=Nat.blt i k&&Ab ((xZ ops 0 []).getD (k - 1 - i) 0) x
def pex (v:Value):Exit:= .panic [{v:=v,recovered:=false}]
def rK (P:Program) (Γ:zdP) (ops:zdO) (base:Nat):List Oper->Nat->AS->List li->(AS->List li->Prop)->Prop
 | [],_,A,tr,K=>K A tr.reverse
 |o::rest,i,A,tr,K=>match step P Γ ops (base+i) o A with
  |some (b,A',f)=>ah b (rK P Γ ops base rest (i+1) A' (f::tr) K)
  |none=>False
def free (ops:zdO) (l:List Oper) (tr:List li):Bool:=
 (List.range l.length).all λi=>((l[i]?).map λo=>o.after.toList.all λe=> !Region.binds .any e||Nat.blt e.on i).getD false&&
   (List.range i).all λx=>bK l l.length i x||match l[i]?,l[x]?,tr[i]?,tr[x]? with
   |some N,some Y,some H,some J=>Oper.apart ops Y N&& !pZ J H
   |_,_,_,_=>false
def endG (A:AS):AS:={A with tm:=λt=>bif A.og t then .dead else A.tm t,og:=λ_=>false,ok:=λ_=>false,lit:= []}
abbrev Aft:=Res->(zdL)->Nat->List Nat->Prop
structure Inl where
 call:FuncId->List SV->(Nat->Option Blk)->Nat->List Nat->Aft->Prop
 yl:Nat->List SV->(Nat->Option Blk)->Nat->List Nat->Aft->Prop
instance:CoeFun Inl λ_=>FuncId->List SV->(Nat->Option Blk)->Nat->List Nat->Aft->Prop:=⟨Inl.call⟩
def okK (K:SV->(zdL)->Nat->List Nat->Prop):Aft
 | .ok s,b,n,w=>K s b n w
 | .pan _,_,_,_=>False
def yB:Nat:=17592186044416
def po (Γ:zdP) (A:AS) (o:Oper) (G:List (Nat×Bool):= []):Option (FuncId×List SV):=
 match o.guard,o.op with
 |none, .call c=>match c.callee with
  | .value _=>match target A.tm G c with
    |some (f,args)=>match Γ f with
     |none=>some (f,args)
     |some _=>none
    |none=>none
  |_=>none
 |_,_=>none
def B4 (A:AS) (o:Oper) (G:List (Nat×Bool):= []):Option (Nat×List SV):=
 match o.guard,o.op with
 |none, .call c=>match c.callee with
  | .value f=>match ev A.tm G f,evs A.tm G c.args.toList with
    |some (.yl id),some args=>some (id,args)
    |_,_=>none
  |_=>none
 |_,_=>none
def ald (B C:zdM) (n e:Nat):zdM:=λk=>bif Nat.blt k n then B k else C (e+(k - n))
abbrev _root_.zdQ:=Nat->Bool
def rL:Nat->(zdQ)->Bool
 |0,_=>true
 |k+1,f=>f k&&rL k f
def S0 (P:Program) (A:AS) (t:TypeId) (x y:SV):Option (Bool×(zdL)×SV×List Nat):=
 match P.underlying t,y with
 |some (.slice el), .slc j e m=>match P.info? el,A.bl j with
  |some H,some C=>match C.kd with
   | .gone=>none
   |_=>bif Nat.beq C.sz H.size&&Nat.ble 1 H.size&&Nat.ble 1 H.bytes&&(match H.zero with
     |some z=>Nat.beq z.cells.size H.size
     |none=>false) then(match x with
    | .val (.slice none 0 0)=>some (decide (0<m)&&decide (e+m<=C.n)&&decide (m*H.bytes<=140737488355328)&&rL m (λk=>(C.get (e+k)).all SV.one),upd A.bl A.nx {n:=m,sz:=C.sz,get:=λk=>C.get (e+k),kd:= .own}, .slc A.nx 0 m, [])
    | .slc i 0 n=>match A.bl i with
      |some B=>match B.kd with
       | .own=>bif Nat.beq B.sz C.sz&& !Nat.beq i j then
          some (decide (0<m)&&decide (e+m<=C.n)&&decide (n<=B.n)&&decide ((n+m)*H.bytes<=140737488355328)&&rL m (λk=>(C.get (e+k)).all SV.one),
           upd (upd A.bl i {B with kd:= .gone}) A.nx {n:=n+m,sz:=C.sz,get:=ald B.get C.get n e,kd:= .own}, .slc A.nx 0 (n+m), [i]) else none
       |_=>none
      |none=>none
    |_=>none) else none
  |_,_=>none
 |_,_=>none
def ac6 (A:AS) (o:Oper):Option (TypeId×SV×SV):=
 match o.guard,o.op with
 |none, .call c=>match c.callee with
  | .builtin .append=>match c.argTypes.toList,evs A.tm [] c.args.toList with
    | [t,H],some [x,y]=>bif Nat.beq t H then some (t,x,y) else none
    |_,_=>none
  |_=>none
 |_,_=>none
def B5:Value->Option Bool
 | .slice none _ _=>some false
 | .nilFunc=>some true
 |_=>none
inductive XOp where
 |nil (t:TypeId) (b f:Bool) (x:SV)
 |panic (v:Value)
 |iface (t:TypeId) (v:Value)
 |mk (t:TypeId)
 |set (t:TypeId) (i:Nat) (k v:SV)
 |rng (t:TypeId) (i:Nat)
 |nxt (i:Nat)
 |ent (i:Nat)
def uq (A:AS) (o:Oper):Option XOp:=
 match o.guard,o.op with
 |none, .panic x=>match ev A.tm [] x with
  |some (.val (.iface t v))=>some (.panic (.iface t v))
  |_=>none
 |none, .makeInterface t x=>match ev A.tm [] x with
  |some (.val v)=>some (.iface t v)
  |_=>none
 |none, .makeMap t none=>some (.mk t)
 |none, .range t m=>match ev A.tm [] m with
  |some (.mp i)=>some (.rng t i)
  |_=>none
 |none, .next x false=>match ev A.tm [] x with
  |some (.ptr i 0 0)=>some (.nxt i)
  |_=>none
 |none, .entry x=>match ev A.tm [] x with
  |some (.ptr i 0 0)=>some (.ent i)
  |_=>none
 |none, .insert t m k v=>match ev A.tm [] m,ev A.tm [] k,ev A.tm [] v with
  |some (.mp i),some k,some v=>some (.set t i k v)
  |_,_,_=>none
 |none, .mapUpdate t m k v=>match ev A.tm [] m,ev A.tm [] k,ev A.tm [] v with
  |some (.mp i),some k,some v=>some (.set t i k v)
  |_,_,_=>none
 |none, .binOp op t x (.const y) _=>match op,ev A.tm [] x,B5 y with
  | .eql,some x,some f=>some (.nil t true f x)
  | .neq,some x,some f=>some (.nil t false f x)
  |_,_,_=>none
 |_,_=>none
def Pm (P:Program) (t:TypeId):Option BK:=
 match P.underlying t with
 |some (.map k e)=>match P.underlying k,P.underlying e with
  |some (.int .i64),some (.int .i64)=>some .mpI
  |some (.int .i64),some .bool=>some .mpB
  |some _,some _=>some .mpL
  |_,_=>none
 |_=>none
def J9 (get:zdM) (k:Nat) (v:zdJ):zdM:=λe=>bif Nat.beq e k then v else get e
def Nw (get:zdM) (k:Nat) (z:Int):zdM:=λe=> [.val (.int .i64 (bif Nat.beq e k then z else iG (get e)))]
def Gc (get:zdM) (k:Nat):zdM:=λe=> [.val (.bool (Nat.beq e k||su (get e)))]
def aI3:BK->Bool
 | .own=>true
 | .old=>true
 | .glb=>true
 |_=>false
def Gd (bl:zdL) (nx:Nat):Bool:=(List.range nx).all λj=>match bl j with
 |some B=> !B.kd.it
 |none=>true
def rM (get:zdM):zdM
 |0=> []
 |e+1=>match get e with
  | [k,v]=> [.val (.bool true),k,v]
  |_=> []
def MU (get:zdM):zdM
 |0=> []
 |e+1=> [.val (.bool (su (get e)))]
def Nx:List SV->zdJ
 |_::r=> .val (.bool false)::r
 | []=> []
def nN (get:zdM) (i:Nat) (k v:SV):zdM
 |0=> [k,v]
 |e+1=>bif Nat.beq e i then Nx (get (e+1)) else get (e+1)
def Ka (get:zdM) (z:Int):zdM
 |0=> [.val (.int .i64 z), .val (.bool true)]
 |e+1=> [.val (.bool (!Nat.beq e z.toNat&&su (get (e+1))))]
def Ge (get:zdM):Nat->Nat->Option (List (Bool×SV×SV))
 |0,_=>none
 |n+1,e=>match get e with
  | []=>some []
  | [.val (.bool b),k,v]=>(Ge get n (e+1)).map ((b,k,v):: ·)
  |_=>none
abbrev _root_.zdR:=SV->Prop
def Gf:List (Bool×SV×SV)->Nat->(Nat->SV->zdR)->Prop
 | [],_,_=>True
 |(b,k,v)::r,e,F=>ag b (F e k v) True/\Gf r (e+1) F
def runX (P:Program) (bl:zdL) (nx:Nat):XOp->Aft->Prop
 | .panic v,K=>K (.pan v) bl nx []
 | .iface t v,K=>match P.underlying t with
   |some (.interface _)=>False
   |some _=>K (.ok (.val (.iface t v))) bl nx []
   |none=>False
 | .mk t,K=>match Pm P t with
   |some kd=>K (.ok (.mp nx)) (upd bl nx {n:=0,sz:=0,get:=λ_=> [],kd:=kd}) (nx+1) [nx]
   |none=>False
 | .set t i k v,K=>match P.underlying t,bl i with
   |some (.map H _),some B=>match B.kd with
    | .mpL=>match Aa B.get 64 0 with
      |some l=>match Gb P H k l,keq P H k k with
       |some b,some _=>ah (Gd bl nx&&(b&&Nat.blt l.length 64)) (K (.ok (.val undef)) (upd bl i {B with get:=J9 B.get l.length [k,v]}) nx [i])
       |_,_=>False
      |none=>False
    | .mpI=>match P.underlying H,k,v with
      |some (.int .i64), .val (.int .i64 k), .val (.int .i64 v)=>ah (Gd bl nx&&decide (0<=k)) (K (.ok (.val undef)) (upd bl i {B with get:=Nw B.get k.toNat v}) nx [i])
      |_,_,_=>False
    | .mpB=>match P.underlying H,k,v with
      |some (.int .i64), .val (.int .i64 k), .val (.bool v)=>ah (Gd bl nx&&(v&&decide (0<=k))) (K (.ok (.val undef)) (upd bl i {B with get:=Gc B.get k.toNat}) nx [i])
      |_,_,_=>False
    |_=>False
   |_,_=>False
 | .rng t i,K=>match P.underlying t,bl i with
   |some (.map _ _),some B=>match B.kd with
    | .mpL=>K (.ok (.ptr nx 0 0)) (upd bl nx {n:=0,sz:=0,get:=rM B.get,kd:= .itL}) (nx+1) [nx]
    | .mpB=>K (.ok (.ptr nx 0 0)) (upd bl nx {n:=0,sz:=0,get:=MU B.get,kd:= .itK}) (nx+1) [nx]
    |_=>False
   |_,_=>False
 | .nxt i,K=>match bl i with
   |some B=>match B.kd with
    | .itL=>match Ge (λe=>B.get (e+1)) 65 0 with
      |some l=>ag (l.any (·.1)) True (K (.ok (.tup [.val (.bool false)])) (upd bl i {B with kd:= .gone}) nx [i])/\
       Gf l 0 λe k v=>K (.ok (.tup [.val (.bool true),k,v])) (upd bl i {B with get:=nN B.get e k v}) nx [i]
      |none=>False
    | .itK=>((∀k,su (B.get (k+1))=false)->K (.ok (.tup [.val (.bool false)])) (upd bl i {B with kd:= .gone}) nx [i])/\
      ∀z:Int,0<=z->su (B.get (z.toNat+1))=true->K (.ok (.tup [.val (.bool true), .val (.int .i64 z), .val (.bool true)])) (upd bl i {B with get:=Ka B.get z}) nx [i]
    |_=>False
   |none=>False
 | .ent i,K=>match bl i with
   |some B=>bif B.kd.it then(match B.get 0 with
    | [k,v]=>K (.ok (.tup [k,v])) bl nx []
    |_=>False) else False
   |none=>False
 | .nil t b f x,K=>match P.underlying t,f,x with
   |some (.slice _),false, .slc i _ _=>match bl i with
    |some B=>ah (B.nn&&aI3 B.kd) (K (.ok (.val (.bool (!b)))) bl nx [])
    |none=>False
   |some (.slice _),false, .val (.slice none _ _)=>K (.ok (.val (.bool b))) bl nx []
   |some (.func _ _ _),true, .fn _ _ _=>K (.ok (.val (.bool (!b)))) bl nx []
   |some (.func _ _ _),true, .val .nilFunc=>K (.ok (.val (.bool b))) bl nx []
   |_,_,_=>False
def vA (p:FuncId×List SV×List SV):Bool:=Nat.ble yB p.1
def Gg (A:AS) (o:Oper):Option (FuncId×List SV×List SV):=
 match o.guard,o.op with
 |none, .defer c=>match c.callee with
  | .value f=>match ev A.tm [] f,evs A.tm [] c.args.toList with
    |some (.fn (.func g) first caps),some args=>bif Nat.ble yB g||A.df.any vA then none else some (g,first++args,caps)
    |_,_=>none
  |_=>none
 |_,_=>none
def kQ (P:Program) (Γ:zdP) (inl:Inl) (A:AS) (o:Oper) (G:List (Nat×Bool):= []):Option (Aft->Prop):=
 match uq A o with
 |some x=>some (runX P A.bl A.nx x)
 |none=>match ac6 A o with
  |some (t,x,y)=>some λK=>match S0 P A t x y with
   |some (b,bl,r,k)=>ah b (K (.ok r) bl (A.nx+1) (A.nx::k))
   |none=>False
  |none=>match po Γ A o G with
   |some (f,args)=>some (inl f args A.bl A.nx [])
   |none=>match B4 A o G with
    |some (i,args)=>some (inl.yl i args A.bl A.nx [])
    |none=>none
abbrev _root_.zdS:=AS->Prop
def uR (A:AS) (d:Option Tmp) (KP:Value->zdS) (K:List Nat->zdS):Aft
 | .ok r,bl,nx,wl=>match putD {A with bl:=bl,nx:=nx,wl:=wl++A.wl} d (.v r) with
   |some A'=>K wl A'
   |none=>False
 | .pan v,bl,nx,wl=>KP v {A with bl:=bl,nx:=nx,wl:=wl++A.wl}
def uU (P:Program) (t:TypeId) (k:SV) (K:Option SV->Prop):List (SV×SV)->Prop
 | []=>K none
 |(H,v)::r=>match keq P t k H with
  |some b=>ag b (K (some v)) (uU P t k K r)
  |none=>False
def R4 (P:Program) (A:AS) (o:Oper):Option ((zdR)->Prop):=
 match o.guard,o.op with
 |none, .lookup t m k ok=>match ev A.tm [] m,ev A.tm [] k,P.underlying t with
  |some (.mp i),some k,some (.map H J)=>match A.bl i,(P.info? J).bind (·.zero) with
   |some B,some z=>match B.kd with
    | .mpL=>match Aa B.get 64 0,keq P H k k with
      |some l,some _=>some λK=>uU P H k (λr=>match r with
       |some v=>K (am5 ok v true)
       |none=>K (am5 ok (ofV z) false)) l
      |_,_=>none
    |_=>none
   |_,_=>none
  |_,_,_=>none
 |_,_=>none
structure Kept2 (b g:Nat) (w w':World):Prop where
 os:w'.os=w.os
 tape:w'.tape=w.tape
 output:w'.output=w.output
 size:w.heap.size<=w'.heap.size
 block: ∀k,k<w.heap.size->k≠b->k≠g->w'.heap[k]? =w.heap[k]?
structure BAtOK (P:Program) (d:BD) (at':Nat->Nat->ByteArray->World->Prop):Prop where
 zero:xX P d.tb=some [.val (.pointer none), .val (.slice none 0 0)]
 fresh: ∀w:World,at' w.heap.size w.heap.size ⟨#[]⟩ (w.alloc (.cells #[.pointer none, .slice none 0 0] d.tb))
 keep: ∀b g t (w w':World),at' b g t w->w'.heap[b]? =w.heap[b]? ->w'.heap[g]? =w.heap[g]? ->at' b g t w'
 lt: ∀b g t (w:World),at' b g t w->b<w.heap.size/\g<w.heap.size/\ ∀es c,w.heap[b]? ≠some (.map es c)/\w.heap[g]? ≠some (.map es c)
 write: ∀b g t s (w:World),at' b g t w->t.size+s.size<=1099511627776->Calls P d.write #[.pointer (some ⟨b,0,none⟩), .string s] w λe w'=>e= .returned (.tuple #[.int .i64 s.size, .nilIface])/\ ∃g',at' b g' (t++s) w'/\(g'=g\/w.heap.size<=g')/\Kept2 b g w w'
 str: ∀b g t (w:World),at' b g t w->1<=t.size->Calls P d.str #[.pointer (some ⟨b,0,none⟩)] w λe w'=>e= .returned (.string t)/\Kept2 b g w w'
 cw: ∀(args:Array Value) (w:World),(callFunc d.write args).run P w= .ok (.enter d.write args) w
 cs: ∀(args:Array Value) (w:World),(callFunc d.str args).run P w= .ok (.enter d.str args) w
def ahr (P:Program) (d:BD):Prop:= ∃at',BAtOK P d at'
def zP:Blk:={n:=0,sz:=2,get:=λ_=> [],kd:= .gone}
def adW (A:AS) (o:Oper):Option (BD×Bool×Option AS):=match A.sd.1 with
 |none=>none
 |some d=>match o.guard,o.op with
  |none, .alloc t=>bif Nat.beq t d.tb then some (d,(match A.sd.2 with
    |none=>fresh A A.nx&&o.dst.isSome
    |some _=>false),putD {A with bl:=upd A.bl A.nx zP,nx:=A.nx+1,wl:=A.nx::A.wl,sd:=(some d,some (A.nx,⟨#[]⟩))} o.dst (.v (.ptr A.nx 0 0))) else none
  |none, .call c=>match target A.tm [] c,A.sd.2 with
   |some (f,args),some (x,t)=>bif Nat.beq f d.write then(match args with
     | [.ptr i 0 0, .val (.string s)]=>some (d,Nat.beq i x&&decide (t.size+s.size<=1099511627776),putD {A with sd:=(some d,some (x,t++s))} o.dst (.v (.tup [.val (.int .i64 s.size), .val .nilIface])))
     |_=>none)
    else bif Nat.beq f d.str then(match args with
     | [.ptr i 0 0]=>some (d,Nat.beq i x&&decide (1<=t.size),putD {A with sd:=(some d,none)} o.dst (.v (.val (.string t))))
     |_=>none)
    else none
   |_,_=>none
  |_,_=>none
def agn (P:Program) (Γ:zdP) (inl:Inl) (ops:zdO) (KP:Value->zdS) (o:Oper) (A:AS) (K:zdS):Prop:=
 match Gg A o with
 |some d=>(match putD {A with df:=d::A.df} o.dst (.v (.val undef)) with
  |some A'=>K A'
  |none=>False)
 |none=>match R4 P A o with
  |some T=>T λs=>(match putD A o.dst (.v s) with
   |some A'=>K A'
   |none=>False)
  |none=>match kQ P Γ inl A o with
  |some T=>T (uR A o.dst KP λ_ A'=>K A')
  |none=>match step P Γ ops A.nx o A with
   |some (b,A',f)=>ah b (K {A' with nx:=A'.nx+1,wl:=f.2++A'.wl})
   |none=>False
def aeq (P:Program) (Γ:zdP) (inl:Inl) (ops:zdO) (KP:Value->zdS) (o:Oper) (A:AS) (K:zdS):Prop:=
 match adW A o with
 |some (d,b,r)=>ahr P d/\ah b (match r with
  |some A'=>K A'
  |none=>False)
 |none=>agn P Γ inl ops KP o A K
def nO (Γ:zdP) (A:AS) (ops:List Oper):Nat->Operand->Bool
 |0,_=>false
 |k+1,x=>match x with
  | .func f=>(Γ f).isSome
  | .tmp t=>match ops.find? λo=>match o.dst with
     |some d=>Nat.beq d t
     |none=>false with
    |some o=>match o.op with
     | .move y=>nO Γ A ops k y
     | .assign y=>nO Γ A ops k y
     |_=>false
    |none=>match A.tm t with
     | .v (.fn (.func f) _ _)=>(Γ f).isSome
     |_=>false
  |_=>false
def QC (Γ:zdP) (A:AS) (ops:List Oper):Op->Bool
 | .call c=>match c.callee with
   | .builtin .append=>true
   | .builtin _=>false
   | .value f=> !nO Γ A ops 9 f
   |_=>true
 | .panic _=>true
 | .makeInterface _ _=>true
 | .makeMap _ _=>true
 | .insert _ _ _ _=>true
 | .mapUpdate _ _ _ _=>true
 | .store _ _ _=>true
 | .alloc _=>true
 | .box _ _=>true
 | .buildSlice _ _ _=>true
 |_=>false
def Gh (Γ:zdP) (A:AS) (ops:zdO) (o:Oper):Option (Nat×Bool):=
 match o.guard with
 |some (j,b)=>match (ops.toList[j]?).bind (·.dst) with
  |some t=>bif A.lit.any (Nat.beq t)||QC Γ A ops.toList o.op then some (t,b) else none
  |none=>none
 |none=>none
def mH (A:AS) (t:Nat) (c:Bool):AS:={A with
 tm:=λx=>bif Nat.beq x t then .v (.val (.bool c)) else match A.tm x with
  | .opt u b s=>bif Nat.beq u t then .v (bif (bif b then c else !c) then s else .val undef) else .opt u b s
  |v=>v
 lit:=t::A.lit}
def aaQ:Nat->AS->Nat->(zdS)->Prop
 |0,_,_,_=>False
 |k+1,A,t,K=>match A.tm t with
  | .v (.val (.bool c))=>bif A.lit.any (Nat.beq t) then K A else ag c (K (mH A t true)) (K (mH A t false))
  | .v _=>K A
  | .opt u _ _=>aaQ k A u λA'=>aaQ k A' t K
  | .dead=>False
def wm (A:AS) (t:Nat) (b:Bool) (d:Option Tmp) (T:zdS) (K:zdS):Prop:=
 match A.tm t with
 | .v (.val (.bool c))=>ag (bif b then c else !c) (T A) (match putD A d (.v (.val undef)) with
   |some A'=>K A'
   |none=>False)
 | .v _=>(match putD A d (.v (.val undef)) with
   |some A'=>K A'
   |none=>False)
 |_=>False
def mI (P:Program) (Γ:zdP) (inl:Inl) (ops:zdO) (KP:Value->zdS):List Oper->AS->(zdS)->Prop
 | [],A,K=>K A
 |o::rest,A,K=>match Gh Γ A ops o with
  |some (t,b)=>aaQ 9 A t λA'=>wm A' t b o.dst (λA'=>aeq P Γ inl ops KP {o with guard:=none} A' λA'=>mI P Γ inl ops KP rest A' K) λA'=>mI P Γ inl ops KP rest A' K
  |none=>aeq P Γ inl ops KP o A λA'=>mI P Γ inl ops KP rest A' K
structure Hst where
 ef:Bool
 rd:List Nat
 wr:List Nat
 nx:Nat
def dc (h:Nat->Option Hst) (i:Nat) (e:Hst):Nat->Option Hst:=λj=>bif Nat.beq j i then some e else h j
def smallF (o:Oper):Bool:=match o.op with
 | .call _=>false
 | .panic _=>false
 | .makeInterface _ _=>false
 | .makeMap _ _=>false
 | .insert _ _ _ _=>false
 | .mapUpdate _ _ _ _=>false
 | .range _ _=>false
 | .next _ _=>false
 | .entry _=>false
 | .binOp _ _ _ _ _=>false
 |_=>true
def okM (ops:zdO) (pre:Nat->zdH) (h:Nat->Option Hst) (i:Nat) (ef:Bool) (rd wr:zdH):Bool:=
 (pre i).all λx=>bK ops.toList ops.size i x||match h x,ops.toList[x]?,ops.toList[i]? with
   |none,_,_=>true
   |some e,some H,some J=>Oper.apart ops H J&& !(ef&&e.ef)&& !jT wr e.rd&& !jT e.wr rd&&(!e.ef||smallF H||rd.all λj=>Nat.blt j e.nx)
   |some _,_,_=>false
def jU (o:Oper):Oper:={o with guard:=none}
def rN (A:AS) (ops:zdO) (o:Oper):Option Bool:=match o.guard with
 |none=>some true
 |some (j,b)=>match (ops.toList[j]?).bind (·.dst) with
  |some t=>match A.tm t with
   | .v (.val (.bool x))=>some (x==b)
   |_=>none
  |none=>none
def Gi (ops:zdO) (o:Oper):List (Nat×Bool):=match o.guard with
 |none=> []
 |some (j,b)=>match (ops.toList[j]?).bind (·.dst) with
  |some t=> [(t,b)]
  |none=> []
def eK (P:Program) (Γ:zdP) (inl:Inl) (ops:zdO) (A:AS) (o:Oper):Option (Aft->Prop):=match o.guard with
 |none=>kQ P Γ inl A o
 |some _=>match kQ P Γ inl A (jU o) (Gi ops o) with
  |some T=>match rN A ops o with
   |some g=>some λK=>cond g (T K) (K (.ok (.val undef)) A.bl A.nx [])
   |none=>none
  |none=>none
def opT (P:Program) (Γ:zdP) (inl:Inl) (ops:zdO) (A:AS) (o:Oper) (KP:Value->zdS) (K:Bool->List Nat->List Nat->zdS):Prop:=
 match eK P Γ inl ops A o with
 |some T=>T (uR A o.dst KP λwl A'=>K true [] wl A')
 |none=>match step P Γ ops A.nx o A with
  |some (b,A',f)=>ah b (match f.2 with
   | []=>K false f.1 [] A'
   |j::l=>K true f.1 (j::l) {A' with nx:=A'.nx+1,wl:=(j::l)++A'.wl})
  |none=>False
def lone (ops:zdO) (i:Nat):Bool:=(List.range ops.size).all λx=>Nat.beq x i||(bif Nat.blt x i then bK ops.toList ops.size i x else bK ops.toList ops.size x i)
def noP:Value->zdS:=λ_ _=>False
def acO (A:AS):AS:={A with tm:=λ_=> .dead,og:=λ_=>false,ok:=λ_=>false,lit:= []}
def Du (ops:zdO) (x i:Nat):Bool:= !Nat.beq x i&& !bK ops.toList ops.size x i&& !bK ops.toList ops.size i x
def dz (ops:zdO) (i:Nat):Bool:=match ops.toList[i]? with
 |some o=> !smallF o
 |none=>true
def ckM (m:Bool) (ops:zdO) (i:Nat) (ef:Bool):Bool:= !m|| !(ef&&(List.range ops.size).any λc=>Du ops i c&&dz ops c)
def n5 (P:Program) (Γ:zdP) (inl:Inl) (ops:zdO) (pre:Nat->zdH) (m:Bool) (KN KP:Value->zdS):List Nat->AS->(Nat->Option Hst)->(zdS)->Prop
 | [],A,_,K=>K A
 |i::rest,A,h,K=>match ops.toList[i]? with
  |none=>False
  |some o=>opT P Γ inl ops A o (bif lone ops i then KP else KN) λef rd wr A'=>ah (okM ops pre h i ef rd wr&&ckM m ops i ef) (n5 P Γ inl ops pre m KN KP rest A' (dc h i ⟨ef,rd,wr,bif ef then A.nx else 0⟩) K)
def Ny (o:Oper):Bool:=match o.guard,o.op with
 |none, .alloc _=>true
 |none, .box _ _=>true
 |none, .buildSlice _ _ _=>true
 |none, .store _ _ _=>true
 |_,_=>false
def Gj (ops:zdO):List (Nat×Nat):=(List.range ops.size).flatMap λc=>bif dz ops c then((List.range ops.size).filter λi=> !Nat.beq i c&& !bK ops.toList ops.size i c&& !bK ops.toList ops.size c i&&match ops.toList[i]? with
 |some o=>Ny o
 |none=>false).map λa=>(c,a) else []
def Gk (ops:zdO):Option (Nat×Nat):=match Gj ops with
 | [(c,a)]=>bif (List.range ops.size).all (λi=>Nat.beq i c|| !dz ops i||bK ops.toList ops.size i c||bK ops.toList ops.size i a) then some (c,a) else none
 |_=>none
def DF (ops:zdO) (q:Nat):zdH:=(List.range ops.size).filter (λx=> !Nat.beq x q&& !bK ops.toList ops.size x q)++q::(List.range ops.size).filter (λx=>bK ops.toList ops.size x q)
def Kb (L:zdH) (p q:Nat):Nat->zdH:=λi=>(L.takeWhile λx=> !Nat.beq x i).filter λx=> !(Nat.beq i q&&Nat.beq x p)
def Gl (x:Nat) (L:zdH):Bool:=L.any (Nat.beq x)
def Nz (ops:zdO) (pre:Nat->zdH) (p q x y:Nat):Bool:=(Gl x (pre y)||(Nat.beq x p&&Nat.beq y q))&& !Gl y (pre x)&&(Nat.blt x y|| !bK ops.toList ops.size x y)&& !Nat.beq x y
def pwB (r:Nat->zdQ):List Nat->Bool
 | []=>true
 |x::l=>l.all (r x)&&pwB r l
def okP (ops:zdO) (L:zdH) (p q:Nat):Bool:=pwB (Nz ops (Kb L p q) p q) L&&L.all (λx=>Nat.blt x ops.size)&&((List.range ops.size).all λx=>Gl x L)&&Nat.ble L.length ops.size
def aiS (Γ:zdP) (A:AS) (ops:List Oper) (o:Oper):Bool:=match o.op with
 | .call c=>match c.callee with
   | .builtin .append=>true
   | .builtin _=>false
   | .value f=> !nO Γ A ops 9 f
   |_=>true
 | .panic _=>true
 | .makeInterface _ _=>true
 | .makeMap _ _=>true
 | .insert _ _ _ _=>true
 | .mapUpdate _ _ _ _=>true
 | .range _ _=>true
 | .next _ _=>true
 | .entry _=>true
 | .binOp _ _ _ (.const y) _=>(B5 y).isSome
 |_=>false
def Ac (Γ:zdP) (A:AS) (ops:List Oper):Bool:=ops.any (aiS Γ A ops)
def adB (P:Program) (o:Oper):Bool:=match o.guard,o.op,o.dst with
 |none, .alloc t,some _=>(xX P t).isSome
 |_,_,_=>false
def atF (ops:zdO) (f:Oper->Bool) (i:Nat):Bool:=match ops.toList[i]? with
 |some o=>f o
 |none=>false
def akc (P:Program) (Γ:zdP) (A:AS) (ops:zdO):zdH:=(List.range ops.size).filter λm=>atF ops (adB P) m&&(List.range ops.size).any λc=>atF ops (aiS Γ A ops.toList) c&&Du ops m c
def aiB (Γ:zdP) (A:AS) (ops:zdO) (M:zdH):zdH:=(List.range ops.size).filter λc=>Gl c M||(atF ops (λo=>aiS Γ A ops.toList o||Ny o) c&&M.any λm=>Du ops m c)
def acP (ops:zdO) (M:zdH) (i:Nat):Bool:=M.any λm=>bK ops.toList ops.size i m
def aiT (ops:zdO) (M:zdH):zdH:=((List.range ops.size).filter λx=> !Gl x M&& !acP ops M x)++(M++(List.range ops.size).filter λx=> !Gl x M&&acP ops M x)
def aiU (L M C:zdH):Nat->zdH:=λi=>(L.takeWhile λx=> !Nat.beq x i).filter λx=> !(Gl i M&&Gl x C)
def aiV (ops:zdO) (pre:Nat->zdH) (M C:zdH) (x y:Nat):Bool:=(Gl y M&&Gl x C||Gl x (pre y)&& !Gl y (pre x)&&(Nat.blt x y|| !bK ops.toList ops.size x y))&& !Nat.beq x y
def aer (ops:zdO) (i:Nat):Option Nat:=(ops.toList[i]?).bind (·.dst)
def acg (ops:zdO) (x y:Nat):Bool:=match ops.toList[x]?,ops.toList[y]? with
 |some a,some b=>Oper.apart ops a b
 |_,_=>false
def okL (P:Program) (ops:zdO) (A:AS) (L M C:zdH):Bool:=pwB (aiV ops (aiU L M C) M C) L&&L.all (λx=>Nat.blt x ops.size)&&((List.range ops.size).all λx=>Gl x L)&&Nat.ble L.length ops.size&&
 ((List.range ops.size).all λi=>Gl i M||bif acP ops M i then C.all (λc=>bK ops.toList ops.size i c) else M.all λm=>acg ops m i)&&
 (M.all λm=> !acP ops M m&&atF ops (adB P) m&&(M.all λm'=>Nat.beq m m'||acg ops m m')&&match aer ops m with
   |some d=> !A.ok d&&Nat.blt d A.nt
   |none=>false)&&(M.all λm=>Gl m C)
def isD (t:Nat):Option Nat->Bool
 |some d=>Nat.beq d t
 |none=>false
abbrev _root_.zdT:=List (Option Nat)
def acw (A:AS) (l:zdT):AS:={A with tm:=λt=>bif l.any (isD t) then .dead else A.tm t}
def ago (ops:zdO) (l:zdH) (i:Nat):Bool:= !Gl i l&&(List.range ops.size).all λx=> !bK ops.toList ops.size i x||Gl x l
def agp (ops:zdO):Nat->List Nat->zdH
 |0,l=>l.reverse
 |k+1,l=>match (List.range ops.size).find? λi=>ago ops l i&& !dz ops i with
  |some i=>agp ops k (i::l)
  |none=>match (List.range ops.size).find? (ago ops l) with
   |some i=>agp ops k (i::l)
   |none=>l.reverse
def aiW (L:zdH):Nat->zdH:=λi=>L.takeWhile λx=> !Nat.beq x i
def akd (ops:zdO) (pre:Nat->zdH) (x y:Nat):Bool:=Gl x (pre y)&& !Gl y (pre x)&& !bK ops.toList ops.size x y&& !Nat.beq x y&&(bK ops.toList ops.size y x||(!dz ops x&&acg ops x y))
def okS (ops:zdO) (L:zdH):Bool:=pwB (akd ops (aiW L)) L&&L.all (λx=>Nat.blt x ops.size)&&((List.range ops.size).all λx=>Gl x L)&&Nat.ble L.length ops.size
def aBV (lt:Bool) (A:AS):Bool:=match A.sd.1 with
 |some _=>true
 |none=>lt
def aiC (lt:Bool) (A:AS) (ops:zdO):Option (Nat×Nat):=match aBV lt A with
 |true=>none
 |false=>Gk ops
def Gm (lt:Bool) (P:Program) (Γ:zdP) (inl:Inl) (ops:zdO) (KP:Value->zdS) (A:AS) (K:zdS):Prop:=match aiC lt A ops with
 |none=>match akc P Γ A ops with
  | []=>(match aBV lt A with
    |false=>n5 P Γ inl ops List.range false noP KP (List.range ops.size) A (λ_=>none) K
    |true=>ah (okS ops (agp ops ops.size [])) (n5 P Γ inl ops (aiW (agp ops ops.size [])) true (λv A'=>KP v (acO A')) KP (agp ops ops.size []) A (λ_=>none) K))
  |m::M=>ah (okL P ops A (aiT ops (m::M)) (m::M) (aiB Γ A ops (m::M)))
   (n5 P Γ inl ops (aiU (aiT ops (m::M)) (m::M) (aiB Γ A ops (m::M))) false noP KP (aiT ops (m::M)) (acw A ((m::M).map (aer ops))) (λ_=>none) K)
 |some (c,a)=>ah (okP ops (DF ops a) c a&&okP ops (DF ops c) a c)
  (n5 P Γ inl ops (Kb (DF ops a) c a) false noP KP (DF ops a) A (λ_=>none) K/\n5 P Γ inl ops (Kb (DF ops c) a c) false noP KP (DF ops c) A (λ_=>none) K)
def asZ (A:AS) (t:Nat) (c:Bool):AS:={A with tm:=λy=>bif Nat.beq y t then .v (.val (.bool c)) else A.tm y}
variable {A:AS}
theorem aso {t:Nat} {c:Bool} (h:A.tm t= .v (.val (.bool c))):asZ A t c=A:=by
 unfold asZ;have:(λy=>bif Nat.beq y t then TV.v (.val (.bool c)) else A.tm y)=A.tm:=funext λy=>by
  cases H:Nat.beq y t with
  |false=>rfl
  |true=>rw[zab H,zdr,h]
 rw[this]
def arK (Γ:zdP) (ops:zdO) (A:AS) (o:Oper):Option (Nat×Bool):=bif aiS Γ A ops.toList o then(match o.guard with
 |some (j,_)=>match (ops.toList[j]?).bind (·.dst) with
  |some t=>match A.tm t with
   | .v (.val (.bool x))=>some (t,x)
   |_=>none
  |none=>none
 |none=>none) else none
def asj (s:Option (Nat×Bool)) (A:AS) (F:zdS):Prop:=match s with
 |none=>F A
 |some (t,x)=>ag x (F (asZ A t true)) (F (asZ A t false))
variable {Γ:zdP} {ops:zdO}
theorem asb {o:Oper} (F:zdS):asj (arK Γ ops A o) A F=F A:=by
 cases h:arK Γ ops A o with
 |none=>rfl
 |some p=>
  obtain⟨t,x⟩:=p;have J:A.tm t= .v (.val (.bool x)):=by
   unfold arK at h;cases H:aiS Γ A ops.toList o with
   |false=>rw[H] at h;cases h
   |true=>
    rw[H,zdr] at h;split at h
    ·split at h
     ·split at h
      ·rename_i N;simp only[za1,zag] at h;obtain⟨rfl,rfl⟩:=h;exact N
      ·cases h
     ·cases h
    ·cases h
  have:=aso J;cases x with
  |true=>exact congrArg F this
  |false=>exact congrArg F this
def as0 (P:Program) (Γ:zdP) (inl:Inl) (ops:zdO) (pre:Nat->zdH) (m:Bool) (KN KP:Value->zdS):List Nat->AS->(Nat->Option Hst)->(zdS)->Prop
 | [],A,_,K=>K A
 |i::rest,A,h,K=>match ops.toList[i]? with
  |none=>False
  |some o=>asj (arK Γ ops A o) A λA=>opT P Γ inl ops A o (bif lone ops i then KP else KN) λef rd wr A'=>ah (okM ops pre h i ef rd wr&&ckM m ops i ef) (as0 P Γ inl ops pre m KN KP rest A' (dc h i ⟨ef,rd,wr,bif ef then A.nx else 0⟩) K)
theorem ask {P:Program} {Γ:zdP} {inl:Inl} {ops:zdO} {pre:Nat->zdH} {m:Bool} {KN KP:Value->zdS}: ∀(L:zdH) (A:AS) (h:Nat->Option Hst) (K:zdS),as0 P Γ inl ops pre m KN KP L A h K=n5 P Γ inl ops pre m KN KP L A h K
 | [],_,_,_=>rfl
 |i::rest,A,h,K=>by
  unfold as0 n5;cases ops.toList[i]? with
  |none=>rfl
  |some o=>
   dsimp only;rw[asb];simp only[ask rest]
def atn (st lt:Bool) (P:Program) (Γ:zdP) (inl:Inl) (ops:zdO) (KP:Value->zdS) (A:AS) (K:zdS):Prop:=match st with
 |false=>Gm lt P Γ inl ops KP A K
 |true=>match aiC lt A ops,akc P Γ A ops,aBV lt A with
  |none, [],false=>as0 P Γ inl ops List.range false noP KP (List.range ops.size) A (λ_=>none) K
  |_,_,_=>Gm lt P Γ inl ops KP A K
theorem asl {st lt:Bool} {P:Program} {inl:Inl} {KP:Value->zdS} {K:zdS}:atn st lt P Γ inl ops KP A K=Gm lt P Γ inl ops KP A K:=by
 cases st with
 |false=>rfl
 |true=>
  unfold atn;dsimp only;split
  ·rename_i h1 h2 h3;unfold Gm;rw[h1];dsimp only;rw[h2];dsimp only;rw[h3];exact ask _ _ _ _
  ·rfl
def mJ (ops:zdO):Bool:=(List.range ops.size).all λi=>match ops.toList[i]? with
 |some o=>o.after.toList.all λe=> !Region.binds .any e||Nat.blt e.on i
 |none=>false
def alD:List li->zdH
 | []=> []
 |f::r=>f.2++alD r
inductive Plc where
 |slot (t:Nat)
 |cell (id e o:Nat)
structure Gr (X:Type) where
 src:Plc
 sz:Nat
 n:X->Nat
 get:X->Nat->List SV
structure Ann where
 X:Type
 inv:X->Prop
 tm:X->List (Nat×SV)
 bk:List (Nat×(X->Nat->List SV)):= []
 st:List (Nat×(X->List SV)):= []
 gr:List (Gr X):= []
 mu:X->Nat
 keep:List Nat:= []
 clean: ∀p∈bk,∀x e,SV.idss (p.2 x e)= []:=by intro p hp x e;simp at hp
 sp:List (X->X):= []
 cleanG: ∀g∈gr,∀x e,SV.idss (g.get x e)= []:=by intro g hg x e;simp at hg
 sb:X->ByteArray:=λ_=>⟨#[]⟩
 bd:Option BD:=none
 fix:List (Nat×Nat×Nat×SV):= []
def NA {X:Type} (x:X):List (X->X)->Prop
 | []=>False
 |f::r=>f x=x\/NA x r
def Kd {X:Type} (T:(X->X)->Prop):List (X->X)->Prop
 | []=>True
 |f::r=>T f/\Kd T r
def DG (N:Ann) (T:N.X->Prop):Prop:=match N.sp with
 | []=> ∀x,N.inv x->T x
 |f::r=>(∀x,N.inv x->NA x (f::r))/\Kd (λg=> ∀x,N.inv (g x)->T (g x)) (f::r)
theorem ar2 {X:Type} {T:X->Prop} {I:X->Prop} {x:X} (H:I x): ∀{l:List (X->X)},NA x l->Kd (λg=> ∀x,I (g x)->T (g x)) l->T x
 | [],h,_=>h.elim
 |f::r,h,k=>by
  rcases h with h|h
  ·have:=k.1 x (by rw[h];exact H);rwa[h] at this
  ·exact ar2 H h k.2
theorem B6 {X:Type} {T:X->Prop} {I:X->Prop} (h: ∀x,I x->T x): ∀{l:List (X->X)},Kd (λg=> ∀x,I (g x)->T (g x)) l
 | []=>trivial
 |f::r=>⟨λx H=>h _ H,B6 h⟩
variable {N:Ann}
theorem rO {T:N.X->Prop} (h:DG N T): ∀x,N.inv x->T x:=by
 unfold DG at h;split at h
 ·exact h
 ·exact λx H=>ar2 H (h.1 x H) h.2
theorem Ke {T T':N.X->Prop} (h:DG N T) (k: ∀x,N.inv x->T' x):DG N T':=by
 unfold DG at h ⊢;split at h
 ·exact k
 ·exact⟨h.1,B6 k⟩
def aJ0:List (Nat×SV)->Nat->TV
 | [],_=> .dead
 |(u,s)::r,t=>bif Nat.beq t u then .v s else aJ0 r t
def adf (A:AS):List Nat->List (Nat×SV)
 | []=> []
 |t::r=>match A.tm t with
  | .v s=>(t,s)::adf A r
  |_=>adf A r
def Ann.all (N:Ann) (A:AS) (x:N.X):List (Nat×SV):=N.tm x++adf A N.keep
def aJ1 (A:AS) (l:List (Nat×SV)) (ks:zdH) (t:Nat):TV:=match aJ0 l t with
 | .v s=> .v s
 |_=>bif ks.any (Nat.beq t) then(match A.tm t with
  | .v s=> .v s
  |_=> .dead) else .dead
def QD (A:AS):Plc->Option SV
 | .slot t=>match A.tm t with
   | .v s=>some s
   |_=>none
 | .cell id e o=>match A.bl id with
   |some B=>(B.get e)[o]?
   |none=>none
def aiX {X:Type} (A:AS):List (Gr X)->Option (zdT)
 | []=>some []
 |g::r=>match QD A g.src,aiX A r with
  |some (.slc i 0 _),some l=>some (some i::l)
  |some (.val (.slice none 0 0)),some l=>some (none::l)
  |_,_=>none
def ck:List (Option Nat)->zdH
 | []=> []
 |some i::r=>i::ck r
 |none::r=>ck r
def killed (A:AS) (N:Ann):zdH:=match aiX A N.gr with
 |some l=>ck l
 |none=> []
def Pn (b:Nat) (rs:zdT) (i:Nat):Option (Option Nat):=bif Nat.blt i b then some (some i) else rs[i - b]?
mutual
def SV.ren (b:Nat) (rs:List (Option Nat)):SV->Option SV
 | .val v=>some (.val v)
 | .ptr id e o=>bif Nat.blt id b then some (.ptr id e o) else none
 | .mp id=>bif Nat.blt id b then some (.mp id) else none
 | .yl id=>bif Nat.blt id b then some (.yl id) else none
 | .slc id e len=>match Pn b rs id with
   |some (some i)=>some (.slc i e len)
   |some none=>some (.val (.slice none len 0))
   |none=>none
 | .agg cs=>(SV.rens b rs cs).map .agg
 | .tup cs=>(SV.rens b rs cs).map .tup
 | .fn f a c=>match SV.rens b rs a,SV.rens b rs c with
   |some a,some c=>some (.fn f a c)
   |_,_=>none
def SV.rens (b:Nat) (rs:List (Option Nat)):List SV->Option (List SV)
 | []=>some []
 |x::xs=>match SV.ren b rs x,SV.rens b rs xs with
  |some y,some H=>some (y::H)
  |_,_=>none
end
def onB (b:Bool):List SV->zdJ
 |_::r=> .val (.bool b)::r
 | []=> []
def abr (f get:zdM):zdM
 |0=> []
 |e+1=>onB (su (f (e+1))) (get (e+1))
def BK.sel (k:BK) (f get:zdM):zdM:=match k with
 | .itL=>abr f get
 |_=>f
def rP {X:Type} (bl:zdL) (x:X):List (Nat×(X->zdM))->zdL
 | [],i=>bl i
 |(j,g)::r,i=>bif Nat.beq i j then(match bl i with
  |some B=>some {B with get:=B.kd.sel (g x) B.get}
  |none=>none) else rP bl x r i
def p7 {X:Type} (bl:zdL) (x:X):List (Nat×(X->zdJ))->zdL
 | [],i=>bl i
 |(j,g)::r,i=>bif Nat.beq i j then(match bl i with
  |some B=>some {B with get:=λ_=>g x}
  |none=>none) else p7 bl x r i
def arD (bl:zdL) (ks:zdH) (i:Nat):Option Blk:=bif ks.any (Nat.beq i) then(match bl i with
 |some B=>some {B with kd:= .gone}
 |none=>none) else bl i
def grB {X:Type} (x:X):List (Gr X)->zdL
 | [],_=>none
 |g::_,0=>some {n:=g.n x,sz:=g.sz,get:=g.get x,kd:= .own,nn:=false}
 |_::r,i+1=>grB x r i
def cX (A:AS) (N:Ann) (x:N.X) (i:Nat):Option Blk:=
 bif Nat.blt i A.nx then rP (p7 (arD A.bl (killed A N)) x N.st) x N.bk i else grB x N.gr (i - A.nx)
def aI2 (A:AS) (N:Ann) (x:N.X):Option BD×Option (Nat×ByteArray):=match A.sd.2 with
 |none=>A.sd
 |some (i,_)=>(A.sd.1,some (i,N.sb x))
def bdE:Option BD->Option BD->Bool
 |some d,some e=>Nat.beq d.write e.write&&Nat.beq d.str e.str&&Nat.beq d.tb e.tb
 |_,_=>false
def aiD (A A':AS) (N:Ann) (x:N.X) (T:Prop):Prop:=match A.sd.2,A'.sd.2 with
 |none,none=>T
 |some (i,_),some (j,t)=>ah (Nat.beq i j&&bdE A.sd.1 A'.sd.1) (t=N.sb x/\T)
 |_,_=>False
def rQ (A:AS) (N:Ann) (x:N.X):AS:={A with tm:=aJ1 A (N.tm x) N.keep,bl:=cX A N x,nx:=A.nx+N.gr.length,wl:= [],og:=λ_=>false,ok:=λ_=>false,df:= [],lit:= [],sd:=aI2 A N x}
def eqO (v:TV) (s:Option SV):Prop:=match s with
 |some s=>v= .v s
 |none=>False
def Gn (b:Nat) (rs:zdT) (A:AS):List (Nat×SV)->Prop
 | []=>True
 |(t,s)::r=>eqO (A.tm t) (s.ren b rs)/\Gn b rs A r
def NC:Nat->(Nat->Prop)->Prop
 |0,_=>True
 |k+1,f=>f k/\NC k f
def Gp {X:Type} (A0 A:AS) (x:X):List (Nat×(X->zdM))->Prop
 | []=>True
 |(i,g)::r=>(match A.bl i with
  |some B=>match B.kd with
   | .gone=>False
   | .mpL=>False
   | .dm=>False
   | .lp _=>False
   | .mpI=> ∀e,iG (B.get e)=iG (g x e)
   | .mpB=> ∀e,su (B.get e)=su (g x e)
   | .itK=>(∀e,su (B.get (e+1))=su (g x (e+1)))/\g x 0= []
   | .itL=>(match A0.bl i with
     |some B0=> ∀e,B.get (e+1)=abr (g x) B0.get (e+1)
     |none=>False)
   |_=>NC B.n λe=>B.get e=g x e
  |none=>False)/\Gp A0 A x r
def Gq {X:Type} (b:Nat) (rs:zdT) (A:AS) (x:X):List (Nat×(X->zdJ))->Prop
 | []=>True
 |(i,g)::r=>(match A.bl i,SV.rens b rs (g x) with
  |some B,some cs=>match B.kd with
   | .gone=>False
   |_=>ah (Nat.beq B.n 1) (B.get 0=cs)
  |_,_=>False)/\Gq b rs A x r
def B7 {X:Type} (A:AS) (x:X):List (Gr X)->List (Option Nat)->Prop
 | [], []=>True
 |g::r,some i::l=>(match A.bl i with
  |some B=>match B.kd with
   | .own=>ah (Nat.beq B.sz g.sz&&decide (g.n x<=B.n)) (∀e,e<g.n x->B.get e=g.get x e)
   |_=>False
  |none=>False)/\B7 A x r l
 |g::r,none::l=>g.n x=0/\B7 A x r l
 |_,_=>False
def uV:List Nat->Bool
 | []=>true
 |i::r=> !(r.any (Nat.beq i))&&uV r
def B8 (first:Bool) (A A':AS) (N:Ann) (x:N.X):Prop:=match aiX A' N.gr with
 |none=>False
 |some rs=>ah (uV (ck rs)&&(first||(ck rs).all (Nat.ble A.nx))&&(match A'.df with
  | []=>true
  |_=>false)) (aiD A A' N x (Gn A.nx rs A' (N.all A x)/\Gp A A' x N.bk/\Gq A.nx rs A' x N.st/\B7 A' x N.gr rs))
def Gs (nx:Nat) (wl:zdH) (ids:zdH):Bool:=wl.all λi=>Nat.ble nx i||ids.any (Nat.beq i)
def Ann.ids (N:Ann) (A:AS):zdH:=N.bk.map (·.1)++N.st.map (·.1)++killed A N
def lF:Code->Nat
 | .region id _ _=>id
 | .seq a _=>lF a
 | .block _ c=>lF c
 | .loop c=>lF c
 | .scope c=>lF c
 | .cond _ a _=>lF a
 |_=>0
def mK (body:(Exit->zdS)->zdS):Nat->(Exit->zdS)->zdS
 |0,_,_=>False
 |n+1,K,A=>body (λe A'=>match e with
  | .normal=>mK body n K A'
  |e=>K e A') A
def aes:List (Nat×Nat×Nat×SV)->AS->(zdS)->Prop
 | [],A,K=>K A
 |(i,e,o,s)::r,A,K=>match A.bl i with
  |some B=>(B.get e)[o]? =some s/\aes r {A with bl:=upd A.bl i (B.put e o [s])} K
  |none=>False
def MV (body:(Exit->zdS)->zdS) (N:Ann) (K:Exit->zdS) (A:AS):Prop:=
 ∃J,N.inv J/\B8 true A A N J/\DG N λx=>
  body (λe A'=>match e with
   | .normal=>ah (Gs A.nx A'.wl (N.ids A)) (∃H,N.inv H/\N.mu H<N.mu x/\B8 false A A' N H)
   |e=>aes N.fix {A' with wl:=N.ids A++A'.wl++A.wl} (K e)) (rQ A N x)
def dmB:Blk:={n:=0,sz:=0,get:=λ_=> [],kd:= .dm}
def lpG (A:AS):zdM
 |0=> []
 |t+1=>match A.tm t with
  | .v s=> [s]
  |_=> []
def lpB (H:FuncId) (A:AS) (ps:Array Tmp) (assign body:Code):Blk:={n:=0,sz:=0,get:=lpG A,kd:= .lp ⟨H,A.nt,ps,assign,body⟩}
def aAN (l:zdJ) (get:zdM):zdM
 |0=>l
 |t+1=>get (t+1)
def Blk.setL (B:Blk) (l:zdJ):Blk:={B with get:=aAN l B.get}
def EI (A:AS) (bl:zdL) (nx:Nat) (wl:zdH):AS:={A with bl:=bl,nx:=nx,wl:=wl++A.wl,df:=(A.nx+yB, [], [])::A.df}
def ays (A:AS) (K:Exit->zdS):Aft
 | .ok _,bl,nx,wl=>match bl (A.nx+1) with
   |some B=>match B.kd,B.get 0 with
    | .lp _, []=>K .normal (EI A (upd bl (A.nx+1) {B with kd:= .gone}) nx ((A.nx+1)::wl))
    | .lp _, [.val (.int _ 0)]=>K .ret (EI A (upd bl (A.nx+1) {B with kd:= .gone}) nx ((A.nx+1)::wl))
    | .lp _, [.val (.int _ 1), .val (.int _ i)]=>K (.exit i.toNat) (EI A (upd bl (A.nx+1) {B with kd:= .gone}) nx ((A.nx+1)::wl))
    |_,_=>False
   |none=>False
 | .pan v,bl,nx,wl=>K (pex v) (EI A bl nx wl)
def vc (P:Program) (Γ:zdP) (inl:Inl) (H:FuncId) (ann:Nat->Option (AS->Ann)):Code->(Exit->zdS)->zdS
 | .skip,K,A=>K .normal A
 | .label _,K,A=>K .normal A
 | .seq a b,K,A=>vc P Γ inl H ann a (λe A'=>match e with
   | .normal=>vc P Γ inl H ann b K A'
   |e=>K e A') A
 | .cond c t f,K,A=>match ev A.tm [] c with
   |some (.val (.bool b))=>ag b (vc P Γ inl H ann t K A) (vc P Γ inl H ann f K A)
   |_=>False
 | .block id c,K,A=>vc P Γ inl H ann c (λe A'=>match e with
   | .exit i=>bif Nat.beq i id then K .normal A' else K (.exit i) A'
   |e=>K e A') A
 | .loop c,K,A=>match ann (lF c) with
   |none=>mK (vc P Γ inl H ann c) 40 K A
   |some N=>MV (vc P Γ inl H ann c) (N A) K A
 | .scope c,K,A=>vc P Γ inl H ann c (λe A'=>match e with
   | .goto _=>False
   |e=>K e A') A
 | .exit id,K,A=>K (.exit id) A
 | .ret,K,A=>K .ret A
 | .region _ ops J,K,A=>bif J then bif Ac Γ A ops.toList then
    ah (mJ ops) (atn (ann 4294967294).isSome (ann 4294967293).isSome P Γ inl ops (λv A'=>K (pex v) (endG A')) A λA'=>K .normal (endG A'))
   else rK P Γ ops A.nx ops.toList 0 A [] λA' tr=>ah (free ops ops.toList tr) (K .normal {endG A' with nx:=A.nx+ops.size,wl:=alD tr++A.wl})
   else mI P Γ inl ops (λv A'=>K (pex v) (endG A')) ops.toList A λA'=>K .normal (endG A')
 | .rangeFunc g ps assign body,K,A=>match ev A.tm [] g with
   |some (.fn (.func gf) [] caps)=>ah (A.df.all vA)
    (inl gf (.yl (A.nx+1)::caps) (upd (upd A.bl A.nx dmB) (A.nx+1) (lpB H A ps assign body)) (A.nx+2) [] (ays A K))
   |_=>False
 |_,_,_=>False
def ur (P:Program) (A:AS):List ResultVar->Option (Bool×List SV)
 | []=>some (true, [])
 | .tmp t::r=>match A.tm t,ur P A r with
   | .v s,some (b,l)=>some (b,s::l)
   |_,_=>none
 | .cell t ty::r=>match A.tm t,ur P A r with
   | .v s,some (b,l)=>match rH P A.bl ty s with
     |some E=>some (E.need&&b,E.out::l)
     |none=>none
   |_,_=>none
def auq:List SV->SV
 | [s]=>s
 |l=> .tup l
def fB (args:zdJ) (nt:Nat) (bl:zdL) (nx:Nat) (wl:zdH) (hq:Bool):AS:=
 {tm:=λt=>match args[t]? with
   |some s=> .v s
   |none=>bif Nat.blt t nt then .v (.val undef) else .dead
  bl:=bl,nx:=nx,nt:=max args.length nt,wl:=wl,og:=λ_=>false,ok:=λ_=>false,hq:=hq}
def sa (H:Nat->Option (AS->Ann)) (A:AS):AS:=match H 4294967295 with
 |some F=>{A with sd:=((F A).bd,none)}
 |none=>A
abbrev _root_.zdU:=List Blk
def fv (bl:zdL) (nx:Nat) (l:zdU) (i:Nat):Option Blk:=bif Nat.blt i nx then bl i else l[i - nx]?
def chB (bl:zdL):List (Nat×Blk)->zdL
 | []=>bl
 |(i,B)::r=>upd (chB bl r) i B
def Po:BK->BK->Bool
 | .own, .own=>true
 | .old, .old=>true
 | .glb, .glb=>true
 | .mpI, .mpI=>true
 | .mpB, .mpB=>true
 | .mpL, .mpL=>true
 | .gone,_=>true
 |_,_=>false
def x8 (bl:zdL):List (Nat×Blk)->Bool
 | []=>true
 |(i,B)::r=>(match bl i with
  |some C=>Nat.beq B.n C.n&&Nat.beq B.sz C.sz&&(B.nn==C.nn)&&Po B.kd C.kd
  |none=>false)&&x8 bl r
def ND (P:Program) (l:List ResultVar) (K:Aft) (A:AS):Prop:=match ur P A l with
 |some (b,l)=>ah b (K (.ok (auq l)) A.bl A.nx A.wl)
 |none=>False
def qF (P:Program) (Δ:FuncId->Option DCtr) (l:List ResultVar) (K:Aft):List (FuncId×List SV×List SV)->Option Value->zdS
 | [],none,A=>ND P l K A
 | [],some v,A=>K (.pan v) A.bl A.nx A.wl
 |(f,as,cs)::H,m,A=>bif Nat.ble yB f then ah (H.all vA) (match A.bl (f - yB) with
  |some B=>(match B.kd,B.get 0 with
   | .dm, []=>qF P Δ l K H m {A with bl:=upd A.bl (f - yB) {B with kd:= .gone},wl:=(f - yB)::A.wl}
   |_,_=>False)
  |none=>False) else bif H.any vA then False else match Δ f with
  |some k=>match k m A.bl (as++cs) with
   |some (b,m',ch)=>ah (b&&x8 A.bl ch) (qF P Δ l K H m' {A with bl:=chB A.bl ch,wl:=ch.map (·.1)++A.wl})
   |none=>False
  |none=>False
def gq (P:Program) (Δ:FuncId->Option DCtr) (l:List ResultVar) (K:Aft):Exit->zdS
 | .normal,A=>qF P Δ l K A.df none A
 | .ret,A=>qF P Δ l K A.df none A
 | .panic ch,A=>match ch with
   | [e]=>bif e.recovered||e.goexit then False else qF P Δ l K A.df (some e.v) A
   |_=>False
 |_,_=>False
def Pp:SV->Int->SV
 | .agg (.val (.int k _)::r),z=> .agg (.val (.int k z)::r)
 |x,_=>x
def NE:SV->Option Int
 | .agg (.val (.int _ z)::_)=>some z
 |_=>none
def Gt:List SV->Nat->Int->zdJ
 | [],_,_=> []
 |x::l,0,z=>Pp x z::l
 |x::l,i+1,z=>x::Gt l i z
def Gu:List SV->Nat->Option Int
 | [],_=>none
 |x::_,0=>NE x
 |_::l,i+1=>Gu l i
def x9 (T:List SV->Bool->Prop) (args:zdJ) (i:Nat) (z:Int):List Int->Prop
 | []=>T args true
 |n::r=>ag (z==n) (T (Gt args i n) false) (x9 T args i z r)
def spl (b:Bool) (T:List SV->Bool->Prop) (args:zdJ):Prop:=match b with
 |true=>(match Gu args 1 with
  |some z=>x9 T args 1 z [1,2,3,4,5,6,7,8]
  |none=>False)
 |false=>T args false
def abC (bl:zdL) (nx:Nat) (wl:zdH) (K:Aft):Option RC->Prop
 |some C=>ah (Gd bl nx&&C.pre) (∀x,C.spec x->ah (x8 bl (C.ch x)) (K (C.res x) (fv (chB bl (C.ch x)) nx (C.nw x)) (nx+(C.nw x).length) ((C.ch x).map (·.1)++wl)))
 |none=>False
def abs (k:List SV->Option RC) (bl:zdL) (nx:Nat) (wl:zdH) (K:Aft):List SV->Prop
 | .val (.bool b)::r=>ag b (abC bl nx wl K (k (.val (.bool true)::r))) (abC bl nx wl K (k (.val (.bool false)::r)))
 |_=>False
def _root_.Go.Code.noDef:Code->Bool
 | .region _ ops _=>ops.toList.all ln
 | .seq a b=>a.noDef&&b.noDef
 | .cond _ a b=>a.noDef&&b.noDef
 | .block _ c=>c.noDef
 | .loop c=>c.noDef
 | .scope c=>c.noDef
 | .rangeFunc .. =>false
 |_=>true
def az5:List Tmp->List SV->Nat->Option SV
 |p::ps,a::as,t=>match az5 ps as t with
  |some s=>some s
  |none=>bif Nat.beq t p then some a else none
 |_,_,_=>none
def ax5 (B:Blk) (r:LRec) (args:zdJ) (bl:zdL) (nx:Nat):AS:=
 {tm:=λt=>match az5 r.ps.toList args t with
   |some s=> .v s
   |none=>match B.get (t+1) with
    | [s]=> .v s
    |_=> .dead
  bl:=bl,nx:=nx,nt:=r.nt,wl:= [],og:=λ_=>false,ok:=λ_=>false}
def ayX (id:Nat) (B:Blk) (wl:zdH) (K:Aft) (e:Exit) (A:AS):Prop:=ah (!Gl id A.wl&&A.df.isEmpty) (match e with
 | .normal=>K (.ok (.val (.bool true))) (upd A.bl id B) A.nx (A.wl++wl)
 | .ret=>K (.ok (.val (.bool false))) (upd A.bl id (B.setL [.val (.int .i64 0)])) A.nx (id::A.wl++wl)
 | .exit i=>K (.ok (.val (.bool false))) (upd A.bl id (B.setL [.val (.int .i64 1), .val (.int .i64 i)])) A.nx (id::A.wl++wl)
 | .panic ch=>match ch with
   | [x]=>bif x.recovered||x.goexit then False else K (.pan x.v) A.bl A.nx (id::A.wl++wl)
   |_=>False
 |_=>False)
def ayY (P:Program) (run:FuncId->Code->(Exit->zdS)->zdS) (id:Nat) (args:zdJ) (bl:zdL) (nx:Nat) (wl:zdH) (K:Aft):Prop:=match bl id with
 |some B=>match B.kd,B.get 0 with
  | .lp r, []=>ah ((P.funcs.toList[r.fn]?).isSome&&r.assign.noDef&&r.body.noDef&&Nat.beq args.length r.ps.size&&r.ps.toList.all λp=>Nat.blt p r.nt)
    (run r.fn r.assign (λe A=>match e with
      | .normal=>ah (!Gl id A.wl) (run r.fn r.body (ayX id B wl K) {A with bl:=upd A.bl id (B.setL [.val (.bool true)]),sd:=(none,none)})
      |_=>False) (ax5 B r args bl nx))
  |_,_=>False
 |none=>False
abbrev _root_.zdV:=FuncId->Nat->Option (AS->Ann)
def azp (P:Program) (Γm:FuncId->Option MCtr) (Δ:FuncId->Option DCtr) (ann:zdV) (run:FuncId->Code->(Exit->zdS)->zdS) (f:FuncId) (args:zdJ) (bl:zdL) (nx:Nat) (wl:zdH) (K:Aft):Prop:=match P.funcs.toList[f]? with
 |some fn=>match fn.body with
  |some c=>spl (Γm (f+1073741824)).isSome (λargs hq=>run f c (gq P Δ fn.results.toList K) (sa (ann f) (fB args fn.ntmps bl nx wl hq))) args
  |none=>False
 |none=>False
def wn (P:Program) (ok:FuncId->Bool) (Γ:zdP) (Γm:FuncId->Option MCtr) (Δ:FuncId->Option DCtr) (ann:zdV):Nat->Inl
 |0=>⟨λ_ _ _ _ _ _=>False,λ_ _ _ _ _ _=>False⟩
 |n+1=>⟨λf args bl nx wl K=>bif ok f then match Γm f with
  |some k=>(match (Γm (f+1073741824)).isSome with
   |true=>abs (k bl nx) bl nx wl K args
   |false=>abC bl nx wl K (k bl nx args))
  |none=>azp P Γm Δ ann (λf=>vc P Γ (wn P ok Γ Γm Δ ann n) f (ann f)) f args bl nx wl K
  else False,ayY P λf=>vc P Γ (wn P ok Γ Γm Δ ann n) f (ann f)⟩
def Ay (P:Program) (ok:FuncId->Bool) (Γ:zdP) (Γm:FuncId->Option MCtr) (Δ:FuncId->Option DCtr) (ann:zdV) (n:Nat) (f:FuncId) (args:zdJ) (bl:zdL) (nx:Nat) (wl:zdH) (K:Aft):Prop:=
 bif ok f then azp P Γm Δ ann (λf=>vc P Γ (wn P ok Γ Γm Δ ann n) f (ann f)) f args bl nx wl K else False
abbrev wq (P:Program) (ok:FuncId->Bool) (Γ:zdP) (Γm:FuncId->Option MCtr) (ann:zdV):Nat->Inl:=wn P ok Γ Γm (λ_=>none) ann
end
section
variable {P:Program} (w:World)
def NF (β:zdI) (p:FuncId×List SV×List SV):Deferred:=bif vA p then {target:= .collected (β (p.1 - yB)).blk,args:= #[]} else {target:= .fn (.func p.1) (SV.concs β p.2.2).toArray,args:=(SV.concs β p.2.1).toArray}
def WQ (β:zdI) (bl:zdL) (df:List (FuncId×List SV×List SV)) (H:List Deferred):Prop:=H=df.map (NF β)/\ ∀p∈df,(∀s∈p.2.1++p.2.2,Live bl s)/\(vA p=true->bl (p.1 - yB)≠none)
structure FR (β:Nat->Loc) (A:AS) (a:Act):Prop where
 defers:WQ β A.bl A.df a.defers
 size:a.tmps.size=A.nt
 v: ∀t s,A.tm t= .v s->a.tmps.getD t undef=s.conc β/\Live A.bl s
 opt: ∀t u b s,A.tm t= .opt u b s->(a.tmps.getD u undef= .bool b->a.tmps.getD t undef=s.conc β/\Live A.bl s)/\(a.tmps.getD u undef≠ .bool b->a.tmps.getD t undef=undef)
 os: ∀t u b s,A.tm t= .opt u b s->A.og t=true/\A.ok u=true
def DX (a:Act) (G:List (Nat×Bool)):Prop:= ∀p∈G,a.tmps.getD p.1 undef= .bool p.2
variable {G:List (Nat×Bool)}
theorem Gv {t:Nat} {b:Bool} (h:DC G t b=true):(t,b)∈G:=by
 induction G with
 |nil=>simp[DC] at h
 |cons p r J=>
  obtain⟨u,c⟩:=p;simp only[DC] at h;by_cases h1:(Nat.beq u t&&(bif c then b else !b))=true
  ·simp only[za2] at h1;have H:=zab h1.1;have e2:c=b:=by cases c<;>cases b<;>simp_all
   subst H;subst e2;simp
  ·simp only[zbc] at h1;simp only[h1,zdq] at h;exact zan _ (J h)
theorem bu {β:zdI} {A:AS} {a:Act} (h:FR β A a) (Y:DX a G) {x:Operand} {s:SV} (H:ev A.tm G x=some s):
 a.eval x=s.conc β/\Live A.bl s:=by
 cases x with
 |tmp t=>
  simp only[ev] at H;cases J:A.tm t with
  |dead=>simp[J] at H
  |v s'=>
   simp[J] at H;subst H;exact h.v t _ J
  |opt u b s'=>
   simp only[J] at H;cases N:DC G u b with
   |false=>simp[N] at H
   |true=>
    simp[N] at H;subst H;obtain⟨h1,_⟩:=h.opt t u b _ J;exact h1 (Y _ (Gv N))
 |const c=>simp[ev] at H;subst H;exact⟨(rE β c).symm,λi hi=>by rw[BX] at hi;cases hi⟩
 |global g=>simp[ev] at H;subst H;exact⟨rfl,λi hi=>by simp[SV.ids] at hi⟩
 |func f=>simp[ev] at H;subst H;exact⟨by simp[SV.conc,SV.concs,Act.eval],λi hi=>by simp[SV.ids,SV.idss] at hi⟩
theorem gQ {β:zdI} {A:AS} {a:Act} (h:FR β A a) {G:List (Nat×Bool)} (J:DX a G): ∀{xs:List Operand} {l:zdJ},evs A.tm G xs=some l->
 xs.map a.eval=SV.concs β l/\ ∀s∈l,Live A.bl s
 | [],l,H=>by simp[evs] at H;subst H;simp[SV.concs]
 |x::xs,l,H=>by
  simp only[evs] at H;cases h1:ev A.tm G x with
  |none=>simp[h1] at H
  |some s=>
   cases h2:evs A.tm G xs with
   |none=>simp[h1,h2] at H
   |some r=>
    simp[h1,h2] at H;subst H;obtain⟨N,e2⟩:=bu h J h1;obtain⟨Y,e4⟩:=gQ h J h2;exact⟨by simp[SV.concs,N,Y],by simp[e2];exact e4⟩
theorem jf {β:zdI} {A:AS} {a:Act} (h:FR β A a) {G:List (Nat×Bool)} (N:DX a G): ∀{xs:List (Nat×Operand)} {l:List (Nat×SV)},dJ A.tm G xs=some l->
 xs.map (λp=>(p.1,a.eval p.2))=l.map (λp=>(p.1,p.2.conc β))/\ ∀p∈l,Live A.bl p.2/\ ∀c,p.2≠ .val (.agg c)
 | [],l,H=>by simp[dJ] at H;subst H;simp
 |(i,x)::xs,l,H=>by
  simp only[dJ] at H;split at H
  ·cases H
  ·rename_i s r J h1 h2;simp at H;subst H;obtain⟨Y,e2⟩:=bu h N h1;obtain⟨e3,e4⟩:=jf h N h2;refine⟨by simp[Y,e3], ?_⟩;intro p hp;simp only[zai] at hp;rcases hp with rfl|hp
   ·exact⟨e2,λc hc=>J c (by simpa using hc)⟩
   ·exact e4 p hp
  ·cases H
theorem p8 {β:zdI} {A:AS} {a:Act} (h:FR β A a): ∀(k t:Nat) (b g:Bool),kO A.tm k t b=some g->(g=true↔a.tmps.getD t undef= .bool b)
 |0,t,b,g,H=>by simp[kO] at H
 |k+1,t,b,g,H=>by
  simp only[kO] at H;split at H
  ·rename_i c N;simp at H;subst H;have:=(h.v t _ N).1;rw[this];cases b<;>cases c<;>simp[SV.conc]
  ·rename_i t' b' c N;split at H
   ·rename_i g' J;simp at H;subst H;have Y:=p8 h k t' b' g' J;obtain⟨h1,h2⟩:=h.opt t t' b' _ N;constructor
    ·intro hh;simp only[za2] at hh;rw[(h1 (Y.1 hh.1)).1];cases b<;>cases c<;>simp_all [SV.conc]
    ·intro hh;by_cases hg:g'=true
     ·have:=(h1 (Y.1 hg)).1;rw[this] at hh;cases b<;>cases c<;>simp_all [SV.conc]
     ·have:=h2 (λe=>hg (Y.2 e));rw[this] at hh;simp[undef] at hh
   ·cases H
  ·cases H
theorem p9 {β:zdI} {A:AS} {a:Act} (h:FR β A a): ∀(k t:Nat) (b:Bool),a.tmps.getD t undef= .bool b->DX a (Xw A.tm k t b)
 |0,t,b,_=>by intro p hp;simp[Xw] at hp
 |k+1,t,b,J=>by
  intro p hp;simp only[Xw,zai] at hp;rcases hp with rfl|hp
  ·exact J
  ·split at hp
   ·rename_i N H s Y;obtain⟨_,h2⟩:=h.opt t N H s Y;by_cases hh:a.tmps.getD N undef= .bool H
    ·exact p9 h k N H hh p hp
    ·rw[h2 hh] at J;simp[undef] at J
   ·cases hp
section
variable {t:TypeId}
theorem nQ {b:Bool} (h:xW P t=some b):(isAgg t).run P w= .ok b w:=by
 unfold xW at h;split at h<;>simp at h<;>subst h<;>rename_i H<;>simp[isAgg,run_underlying H]
 all_goals (split<;>simp_all)
theorem eF {n:Nat} (h:szT P t=some n):(sizeOf t).run P w= .ok n w:=by
 unfold szT at h;cases hi:P.info? t with
 |none=>simp[hi] at h
 |some i=>simp[hi] at h;simp[sizeOf,typeInfo,hi,h]
variable {β:zdI} {cs:zdJ}
theorem aIC (h:xX P t=some cs): ∃v,(zeroValue t).run P w= .ok v w/\v.cells=(SV.concs β cs).toArray/\(∀s∈cs,s.ids= []):=by
 unfold xX at h;cases hi:P.info? t with
 |none=>simp[hi] at h
 |some i=>
  cases H:i.zero with
  |none=>simp[hi,H] at h
  |some v=>
   simp[hi,H] at h;subst h;refine⟨v,by simp[zeroValue,typeInfo,hi,H],by rw[uT], ?_⟩;intro s J;simp at J;obtain⟨x,_,rfl⟩:=J;simp[SV.ids]
theorem fC {off:Nat} {s:SV} (h:kj P t cs off=some s):(part t (SV.concs β cs).toArray off).run P w= .ok (s.conc β) w/\(∀i∈s.ids,i∈SV.idss cs):=by
 unfold kj at h;split at h
 ·rename_i n h1 h2;simp at h;subst h;refine⟨?_, ?_⟩
  ·simp only[part,zdE,nQ w h1,zdD,if_true,Sem.run_ite,eF w h2,zdF,SV.conc]
   congr 2
   apply zaW;simp[SV.concs_eq,List.extract_eq_take_drop]
  ·intro i hi;simp only[SV.ids] at hi;obtain⟨x,H,hi⟩:=SV.mem_idss.1 hi;exact SV.mem_idss.2 ⟨x,zbD (zbd H),hi⟩
 ·rename_i h1;refine⟨?_,λi hi=>SV.mem_idss.2 ⟨s,zal h,hi⟩⟩;have:(SV.concs β cs).toArray[off]? =some (s.conc β):=by simp[SV.concs_eq,h]
  simp[part,nQ w h1,this]
 ·cases h
end
theorem ya {P:Program} {β:zdI} {f:TypeId->SV->SV->Option Bool} {d:Nat} (N: ∀t x y b (w:World),f t x y=some b->(Op.equalIn d t (x.conc β) (y.conc β)).run P w= .ok b w) (xs J:zdJ):
 ∀(fs:List Field) (b:Bool) (w:World),F4 P f xs J fs=some b->(Op.eqFields d (SV.concs β xs).toArray (SV.concs β J).toArray fs).run P w= .ok b w
 | [],b,w,h=>by simp[F4] at h;subst h;simp[Op.eqFields]
 |Y::fs,b,w,h=>by
  simp only[F4] at h;by_cases H:Y.name= "_"
  ·simp[H] at h
  ·simp only[H,decide_false,zdq] at h;split at h
   ·rename_i x y hx hy;split at h
    ·rename_i p q hp hq;simp at h;subst h;have ih:=ya N xs J fs q w hq;simp only[Op.eqFields,ne_eq,H,not_false_eq_true,if_true,zdE,(fC w hx).1,(fC w hy).1,zdD,N _ _ _ _ w hp,Sem.run_ite];cases p
     ·simp
     ·simp[ih]
    ·cases h
   ·cases h
theorem yb {P:Program} {β:zdI} {f:TypeId->SV->SV->Option Bool} {d:Nat} (J: ∀t x y b (w:World),f t x y=some b->(Op.equalIn d t (x.conc β) (y.conc β)).run P w= .ok b w) (e s:Nat) (xs H:zdJ):
 ∀(n i:Nat) (b:Bool) (w:World),F5 P f e s xs H n i=some b->
  (forIn (m:=Sem) (List.range' i n) (none,()) (λj (r:Option Bool×Unit)=>do
    let a <-part e (SV.concs β xs).toArray (j*s)
    let c <-part e (SV.concs β H).toArray (j*s)
    let q <-Op.equalIn d e a c
    if (!q)=true then pure (ForInStep.done (some false,())) else pure (ForInStep.yield (none,())))).run P w= .ok (if b then none else some false,()) w
 |0,i,b,w,h=>by simp[F5] at h;subst h;simp
 |n+1,i,b,w,h=>by
  simp only[F5] at h;split at h
  ·rename_i x y N Y;split at h
   ·rename_i p q hp hq;simp at h;subst h;have ih:=yb J e s xs H n (i+1) q w hq;simp only[List.range'_succ,List.forIn_cons,zdE,(fC w N).1,(fC w Y).1,zdD,J _ _ _ _ w hp,Sem.run_ite];cases p
    ·simp
    ·simpa using ih
   ·cases h
  ·cases h
theorem pc {P:Program} {β:zdI}: ∀(d J:Nat) (t:TypeId) (x y:SV) (b:Bool) (w:World),d<=J->eqS P d t x y=some b->(Op.equalIn J t (x.conc β) (y.conc β)).run P w= .ok b w
 |0,J,t,x,y,b,w,_,h=>by simp[eqS] at h
 |d+1,0,t,x,y,b,w,hd,h=>by omega
 |d+1,J+1,t,x,y,b,w,hd,h=>by
  have ih:=λt x y b w=>pc (P:=P) (β:=β) d J t x y b w (by omega);simp only[eqS] at h;split at h
  ·rename_i H;split at h<;>simp at h;subst h;exact run_equalIn_bool' w J t _ _ H
  ·rename_i k H;split at h
   ·rename_i k1 a k2 c;cases hk:kEq k1 k2 with
    |false=>simp[hk] at h
    |true=>
     simp[hk] at h;subst h;have:=rF hk;subst this;exact run_equalIn_int w J t k1 k _ _ H
   ·cases h
  ·rename_i H;split at h<;>simp at h;subst h;rw[F3];exact run_equalIn_string w J t _ _ H
  ·rename_i fs H;split at h
   ·rename_i xs ys;cases Y:P.stoodInHeld t with
    |true=>simp[Y] at h
    |false=>
     simp[Y] at h;have N:P.fieldsOf t=fs:=by simp[Program.fieldsOf,H]
     have:=run_equalIn_struct (P:=P) w J t (SV.concs β xs).toArray (SV.concs β ys).toArray (by rw[N];exact H) Y;simp only[SV.conc,this,N];exact ya (λt x y b w h=>ih t x y b w h) xs ys fs.toList b w h
   ·cases h
  ·rename_i n e H;split at h
   ·rename_i xs ys;split at h
    ·rename_i s Y;have:=yb (P:=P) (β:=β) (λt x y b w h=>ih t x y b w h) e s xs ys n 0 b w h;simp only[SV.conc,Op.equalIn,zdE,run_underlying H,zdD,eF w Y];rw[Std.Legacy.Range.forIn_eq_forIn_range'];simp only[Std.Legacy.Range.size,zaX,Nat.add_sub_cancel,Nat.div_one];rw[this];cases b<;>simp
    ·cases h
   ·cases h
  ·cases h
end
section
variable {P:Program} {β:zdI}
variable {a b:Int}
theorem aBW (H:0<=a) (J:0<=b) (h1:inR .i64 a=true) (h2:inR .i64 b=true) (t:TypeId) (w:World):
 (binOp .or t (.int .i64 a) (.int .i64 b)).run P w= .ok ((SV.val (.int .i64 ((a.toNat|||b.toNat:Nat):Int))).conc β) w:=by
 have q1:a<=9223372036854775807:=(Wl.1 h1).2;have q2:b<=9223372036854775807:=(Wl.1 h2).2;have Y:a.toNat<2^63:=by omega
 have l2:b.toNat<2^63:=by omega
 have l3:=Nat.or_lt_two_pow Y l2;have e:(BitVec.ofInt IntKind.i64.bits a|||BitVec.ofInt IntKind.i64.bits b).toNat=a.toNat|||b.toNat:=by
  rw[BitVec.toNat_or,BitVec.toNat_ofInt,BitVec.toNat_ofInt];show (a%2^64).toNat|||(b%2^64).toNat=_
  rw[Int.emod_eq_of_lt H (by omega),Int.emod_eq_of_lt J (by omega)]
 have N:IntKind.i64.wrap ((a.toNat|||b.toNat:Nat):Int)=((a.toNat|||b.toNat:Nat):Int):=g9 (Wl.2 ⟨by show (-9223372036854775808:Int)<=_;omega,by show _<=(9223372036854775807:Int);omega⟩);show (Op.intBits .or .i64 a b).run P w=_;simp only[Op.intBits,e,N,zdF,SV.conc]
variable {op:BinOp} {k:IntKind} {n:Bool} {s:SV}
theorem Ad {k':IntKind} (h:J7 op k k' a b=some (n,s)) (H:n=true) (t:TypeId) (w:World):
 (binOp op t (.int k a) (.int k' b)).run P w= .ok (s.conc β) w:=by
 unfold J7 at h;split at h
 ·simp at h;obtain⟨h1,h2⟩:=h;subst h1;subst h2;simp at H;have h0: ¬b<0:=by omega
  simp[binOp,Op.shift,h0,SV.conc,g9 H.2]
 ·simp at h;obtain⟨h1,h2⟩:=h;subst h1;subst h2;simp at H;have h0: ¬b<0:=by omega
  simp[binOp,Op.shift,h0,SV.conc]
 ·rename_i op h1 h2;cases J:kEq k k' with
  |false=>simp[J] at h
  |true=>
   have:=rF J;subst this;simp only[J,zdr] at h;split at h<;>try (simp only[za1,zag,reduceCtorEq] at h<;>(obtain⟨h3,h4⟩:=h;subst h3;subst h4))
   ·simp[binOp,Op.intArith,SV.conc,g9 H]
   ·simp[binOp,Op.intArith,SV.conc,g9 H]
   ·simp[binOp,Op.intArith,SV.conc,g9 H]
   ·simp at H;simp[binOp,Op.intDiv,SV.conc,H.1,g9 H.2]
   ·simp at H;simp[binOp,Op.intDiv,SV.conc,H]
   ·simp[binOp,Op.intCmp,SV.conc]
   ·simp[binOp,Op.intCmp,SV.conc]
   ·simp[binOp,Op.intCmp,SV.conc]
   ·simp[binOp,Op.intCmp,SV.conc]
   ·simp[binOp,Op.intCmp,SV.conc]
   ·simp[binOp,Op.intCmp,SV.conc]
   ·split at h
    ·simp only[za1,zag] at h;obtain⟨h3,h4⟩:=h;subst h3;subst h4;simp only[za2,zdt] at H;exact aBW H.1.1 H.1.2 H.2.1 H.2.2 t w
    ·cases h
theorem wt {a b:zdG} (h:wk op a b=some (n,s)) (H:n=true) (t:TypeId) (w:World):
 (binOp op t (.string a) (.string b)).run P w= .ok (s.conc β) w:=by
 unfold wk at h;split at h<;>simp only[za1,zag,reduceCtorEq] at h<;>(obtain⟨h3,h4⟩:=h;subst h3;subst h4)
 ·simp at H;have: ¬(((a.size+b.size:Nat):Int)>IntKind.i64.max):=by simp;omega
  simp only[binOp,Op.stringOp,this,if_false,zdF,SV.conc]
 all_goals simp[binOp,Op.stringOp,SV.conc,F3,ByteArray.toList_eq]
variable {t:TypeId} {x y:SV}
theorem rR (h:DD P op t x y=some (n,s)) (w:World):
 ∃b,eqS P 9 t x y=some b/\((op= .eql/\s.conc β= .bool b)\/(op= .neq/\s.conc β= .bool (!b))):=by
 unfold DD at h;split at h<;>simp at h
 ·rename_i b H;obtain⟨_,rfl⟩:=h;exact⟨b,H, .inl ⟨rfl,rfl⟩⟩
 ·rename_i b H;obtain⟨_,rfl⟩:=h;exact⟨b,H, .inr ⟨rfl,rfl⟩⟩
theorem kT {x y:Operand} {a b:Array Value} (h:P.eqGuardType P.depth t=false) (w:World):
 (eqGuard op t x y (.agg a) (.agg b)).run P w= .ok () w:=by
 cases op<;>simp[eqGuard,h]
theorem Ae (h:J8 P op t x y=some (n,s)) (N:n=true) (X Y:Operand) (w:World):
 (do eqGuard op t X Y (x.conc β) (y.conc β);binOp op t (x.conc β) (y.conc β)).run P w= .ok (s.conc β) w:=by
 unfold J8 at h;split at h
 ·rename_i k a k' b;have:=Ad (P:=P) (β:=β) h N t w;simp[SV.conc,eqGuard_at_int,this]
 ·rename_i a b;have:=wt (P:=P) (β:=β) h N t w;simp[SV.conc,eqGuard_at_string,this]
 ·rename_i a b;obtain⟨c,J,h1⟩:=rR (β:=β) h w;have H:=pc (β:=β) 9 10000 t _ _ c w (by omega) J;rcases h1 with ⟨rfl,h2⟩|⟨rfl,h2⟩
  ·rw[h2];simp only[SV.conc,eqGuard_at_bool,zdE,zdF,zdD] at H ⊢;simp only[binOp,Op.equal,Op.maxDepth,zdE,H,zdD,zdF]
  ·rw[h2];simp only[SV.conc,eqGuard_at_bool,zdE,zdF,zdD] at H ⊢;simp only[binOp,Op.equal,Op.maxDepth,zdE,H,zdD,zdF]
 ·rename_i xs ys;cases hg:P.eqGuardType P.depth t with
  |true=>simp[hg] at h
  |false=>
   simp only[hg,zdq] at h;obtain⟨c,J,h1⟩:=rR (β:=β) h w;have H:=pc (β:=β) 9 10000 t _ _ c w (by omega) J;rcases h1 with ⟨rfl,h2⟩|⟨rfl,h2⟩
   ·rw[h2];simp only[SV.conc,zdE,kT hg,zdD] at H ⊢;simp only[binOp,Op.equal,Op.maxDepth,zdE,H,zdD,zdF]
   ·rw[h2];simp only[SV.conc,zdE,kT hg,zdD] at H ⊢;simp only[binOp,Op.equal,Op.maxDepth,zdE,H,zdD,zdF]
 ·cases h
theorem aet {Y:Operand} (h:agm P op t Y x y=some (n,s)) (hn:n=true) (X:Operand) (N: ∀v,Y= .const v->y.conc β=v) (w:World):
 (do eqGuard op t X Y (x.conc β) (y.conc β);binOp op t (x.conc β) (y.conc β)).run P w= .ok (s.conc β) w:=by
 unfold agm at h;split at h
 ·rw[N _ rfl];unfold Kt at h;split at h<;>simp only[za1,zag,reduceCtorEq] at h<;>(rename_i J;obtain⟨h3,h4⟩:=h;subst h3;subst h4)
  ·have H: ∀d:Nat,(Op.equalIn (d+1) t .nilIface .nilIface).run P w= .ok true w:=λd=>by simp[Op.equalIn,run_underlying J]
   have H:=H 9999;simp only[Nat.reduceAdd] at H;simp[SV.conc,eqGuard,binOp,Op.equal,Op.maxDepth,H]
  ·have H: ∀d:Nat,(Op.equalIn (d+1) t .nilIface .nilIface).run P w= .ok true w:=λd=>by simp[Op.equalIn,run_underlying J]
   have H:=H 9999;simp only[Nat.reduceAdd] at H;simp[SV.conc,eqGuard,binOp,Op.equal,Op.maxDepth,H]
 ·rename_i a b;rw[N _ rfl];unfold Kt at h;split at h<;>simp only[za1,zag,reduceCtorEq] at h<;>(rename_i J;obtain⟨h3,h4⟩:=h;subst h3;subst h4)
  ·have H: ∀d:Nat,(Op.equalIn (d+1) t (.iface a b) .nilIface).run P w= .ok false w:=λd=>by simp[Op.equalIn,run_underlying J]
   have H:=H 9999;simp only[Nat.reduceAdd] at H;simp[SV.conc,eqGuard,binOp,Op.equal,Op.maxDepth,H]
  ·have H: ∀d:Nat,(Op.equalIn (d+1) t (.iface a b) .nilIface).run P w= .ok false w:=λd=>by simp[Op.equalIn,run_underlying J]
   have H:=H 9999;simp only[Nat.reduceAdd] at H;simp[SV.conc,eqGuard,binOp,Op.equal,Op.maxDepth,H]
 ·exact Ae h hn X Y w
theorem DH {op:UnOp} (h:unS op x=some (n,s)) (H:n=true) (w:World):(Op.unary op (x.conc β)).run P w= .ok (s.conc β) w:=by
 unfold unS at h;split at h<;>simp at h
 ·obtain⟨rfl,rfl⟩:=h;have:=g9 H;simp[SV.conc,Op.unary,Op.intArith,this]
 ·obtain⟨rfl,rfl⟩:=h;simp[SV.conc,Op.unary]
variable {i:Int}
theorem dq {y:Nat} {code:BoundsCode} (h0:0<=i) (h1:i<=y) (w:World):(Instr.sliceBound (.int k i) y code).run P w= .ok i.toNat w:=by
 simp[Instr.sliceBound,asIntOf,h0,h1]
variable {lo hi:Option SV} {l h:Nat}
theorem qb {n cap:Nat} {b:Bool} (H:F9 n lo hi=some (b,l,h)) (J:b=true) (Y:n<=cap) (N:Bool) (w:World):
 (Instr.sliceBounds N n cap (lo.map (SV.conc β)) (hi.map (SV.conc β)) none).run P w= .ok (l,h,cap) w/\l<=h/\h<=n:=by
 unfold F9 at H;split at H<;>simp at H
 ·obtain⟨_,rfl,rfl⟩:=H;exact⟨by simp[Instr.sliceBounds],by omega,by omega⟩
 ·obtain⟨h1,rfl,rfl⟩:=H;subst J;simp at h1;exact⟨by simp[Instr.sliceBounds,SV.conc,dq (y:=cap) h1.1 (by omega)],by omega,by omega⟩
 ·obtain⟨h1,rfl,rfl⟩:=H;subst J;simp at h1;exact⟨by simp[Instr.sliceBounds,SV.conc,dq h1.1 h1.2],by omega,by omega⟩
 ·rename_i k1 l1 k2 h2;obtain⟨h1,rfl,rfl⟩:=H;subst J;simp at h1;obtain⟨⟨h3,h4⟩,h5⟩:=h1;have h6:0<=h2:=by omega
  exact⟨by simp[Instr.sliceBounds,SV.conc,dq (y:=cap) h6 (by omega),dq (y:=h2.toNat) h3 (by omega)],by omega,by omega⟩
theorem Af {n:Nat} {b:Bool} (N:F9 n lo hi=some (b,l,h)) (J:b=true) (H:Bool) (w:World):
 (Instr.sliceBounds H n n (lo.map (SV.conc β)) (hi.map (SV.conc β)) none).run P w= .ok (l,h,n) w/\l<=h/\h<=n:=qb N J (za0 _) H w
theorem yc {s:zdG} (h0:0<=i) (h1:i<s.size):(if 0<=i then s[i.toNat]? else none).map (λb=>(b.toNat:Int))=some (F6 s i.toNat):=by
 have H:i.toNat<s.size:=by omega
 rw[if_pos h0,ByteArray.getElem?_lt' s _ H];unfold F6;have:s.data.toList[i.toNat]? =some s[i.toNat]:=by
  rw[zaa (by simpa using H)];simp[ByteArray.getElem_eq_getElem_data]
 rw[this];rfl
theorem aaI (off:Nat): ∀(vs:zdK) (k:Nat) (H:Array Value) (i:Nat),off+k+vs.length<=H.size->
 ((vs.zipIdx k).foldl (λ(cs:Array Value) (x:Value×Nat)=>cs.setIfInBounds (off+x.2) x.1) H)[i]? =if off+k<=i/\i<off+k+vs.length then vs[i - (off+k)]? else H[i]?
 | [],k,H,i,_=>by simp;omega
 |v::vs,k,H,i,h=>by
  simp only[List.zipIdx_cons,zbe,za4] at h ⊢;rw[aaI off vs (k+1) _ i (by simp;omega)];by_cases h1:i=off+k
  ·subst h1;rw[if_neg (by omega),if_pos (by omega)];simp[Array.getElem?_setIfInBounds];omega
  ·by_cases h2:off+(k+1)<=i/\i<off+(k+1)+vs.length
   ·rw[if_pos h2,if_pos (by omega),show i - (off+k)=(i - (off+(k+1)))+1 by omega];simp
   ·rw[if_neg h2,if_neg (by omega),zdb (by omega)]
theorem jV {place:Nat->Option (Nat×Nat)}: ∀(ps:List (Nat×SV)) (cs r:zdJ),rG place cs ps=some r->(∀p∈ps,∀c,p.2≠ .val (.agg c))->
 Instr.fill place (SV.concs β cs).toArray (ps.map λp=>(p.1,p.2.conc β))=some (SV.concs β r).toArray/\(∀s∈r,s∈cs\/ ∃p∈ps,s∈p.2.cells)/\r.length=cs.length
 | [],cs,r,h,_=>by simp[rG] at h;subst h;exact⟨rfl,λs J=> .inl J,rfl⟩
 |(i,v)::ps,cs,r,h,hv=>by
  simp only[rG] at h;split at h
  ·cases h
  ·rename_i off size hp;cases H:(Nat.beq v.cells.length size&&Nat.ble (off+v.cells.length) cs.length) with
   |false=>simp[H] at h
   |true=>
    simp only[H,zdr] at h;simp only[za2] at H;have e1:=zab H.1;have e2:=zak H.2;obtain⟨N,Y,a0⟩:=jV ps _ r h (λp hp=>hv p (zan _ hp));have hcells:=SV.cells_conc β v (hv (i,v) (by simp));refine⟨?_, ?_,by rw[a0,jd e2]⟩
    ·simp only[zaK,Instr.fill,hp];have hl:(v.conc β).cells.size=v.cells.length:=by rw[hcells,SV.concs_eq];simp
     rw[hl,if_neg (by rw[e1];simp[SV.concs_eq];omega)];have J:Array.foldl (λcs x=>match x with|(c,j)=>cs.setIfInBounds (off+j) c) (SV.concs β cs).toArray (v.conc β).cells.zipIdx=(SV.concs β (gZ cs off v.cells)).toArray:=by
      rw[hcells];apply Array.ext_getElem?;intro i;have:=aaI off (SV.concs β v.cells) 0 (SV.concs β cs).toArray i (by simp[SV.concs_eq];omega);rw[<-Array.foldl_toList];simp only[Array.toList_zipIdx];rw[this];simp only[SV.concs_eq,zdc,zaL,jR e2,zaB,zaY];split<;>rfl
     rw[J];exact N
    ·intro s J;rcases Y s J with h1|⟨p,hp,h1⟩
     ·unfold gZ at h1;simp only[za8] at h1;rcases h1 with (h1|h1)|h1
      ·exact .inl (zbd h1)
      ·exact .inr ⟨(i,v),by simp,h1⟩
      ·exact .inl (zbD h1)
     ·exact .inr ⟨p,zan _ hp,h1⟩
end
section
variable {P:Program} {β:zdI} {W0:Base}
theorem jr (id e o j:Nat):(addr β id e o).add j=addr β id e (o+j):=by
 unfold addr Addr.add;split
 ·subst_vars;simp
 ·simp;omega
variable {bl:zdL} {w:World} {t:TypeId} {x:SV} {E:Eff}
theorem qe (J:BC W0 bl β w) (H:rH P bl t x=some E) (Y:E.need=true):
 ∃a,x.conc β= .pointer (some a)/\(loadVar t a).run P w= .ok (E.out.conc β) w/\Live bl E.out/\E.wr=none/\E.nw=none:=by
 unfold rH at H;split at H
 ·rename_i id e o;split at H
  ·rename_i B hB
   have key:B.kd≠ .gone->(match xW P t,szT P t with
    |some false,_=>match (B.get e)[o]? with
     |some s=>some ({need:=decide (e<B.n),out:=s,rd:= [id]}:Eff)
     |none=>none
    |some true,some n=>bif Nat.beq (((B.get e).drop o).take n).length n then some {need:=decide (e<B.n),out:= .agg (((B.get e).drop o).take n),rd:= [id]} else none
    |_,_=>none)=some E-> ∃a,(SV.ptr id e o).conc β= .pointer (some a)/\(loadVar t a).run P w= .ok (E.out.conc β) w/\Live bl E.out/\E.wr=none/\E.nw=none:=by
    intro hg H;have q:=J.blk id B hB hg;refine⟨addr β id e o,rfl, ?_⟩;split at H
    ·rename_i ht;split at H
     ·rename_i s hs;simp at H;subst H;simp at Y;refine⟨?_,J.live id B e o s hB hg Y hs,rfl,rfl⟩;simp[loadVar,nQ w ht,q.val e Y o s hs]
     ·cases H
    ·rename_i n ht l0;cases hl:Nat.beq (((B.get e).drop o).take n).length n with
     |false=>rw[hl] at H;simp at H
     |true=>
      rw[hl] at H;simp only[zdr,za1] at H;subst H;simp only[zdt] at Y;have a0:=zab hl;refine⟨?_, ?_,rfl,rfl⟩
      ·have hc:=run_loadCells_list (P:=P) w (addr β id e o) (SV.concs β (((B.get e).drop o).take n)) (λj v hv=>by
        rw[jr];rw[SV.concs_eq,zaL] at hv;cases N:(((B.get e).drop o).take n)[j]? with
        |none=>simp[N] at hv
        |some s=>
         simp[N] at hv;subst hv;refine q.val e Y (o+j) s ?_;have e0:j<n:=by
          rcases zah j n with h'|h'
          ·exact h'
          ·rw[zad (by omega)] at N;cases N
         rw[zcb e0,zcx] at N
         exact N)
       have i0:(SV.concs β (((B.get e).drop o).take n)).length=n:=by rw[SV.concs_eq,zaB,a0]
       rw[i0] at hc;simp only[loadVar,zdE,nQ w ht,zdD,if_true,eF w l0,hc,zdF,SV.conc]
      ·intro i hi;simp only[SV.ids] at hi;obtain⟨s,hs,hi⟩:=SV.mem_idss.1 hi;have j0:=zbD (zbd hs);obtain⟨k,hk,g0⟩:=List.mem_iff_getElem.1 j0;exact J.live id B e k s hB hg Y (by rw[zaa hk,g0]) i hi
    ·cases H
   split at H
   ·cases H
   ·rename_i hk;exact key (λe=>hk e) H
  ·cases H
 ·cases H
theorem wu (a0:BC W0 bl β w) {v:SV} (H:o9 P bl t x v=some E) (hn:E.need=true) (hv:Live bl v):
 ∃a id e o B w',x.conc β= .pointer (some a)/\(storeVar t a (v.conc β)).run P w= .ok () w'/\bl id=some B/\E.wr=some (id,e,o,v.cells)/\E.nw=none/\E.out= .val undef/\BC W0 (upd bl id (B.put e o v.cells)) β w':=by
 unfold o9 at H;split at H
 ·rename_i id e o;split at H
  ·rename_i B hB;split at H
   ·rename_i hk;split at H
    ·rename_i n n0;cases Y:(Nat.beq v.cells.length n&&v.cells.all SV.one&&Nat.ble (o+v.cells.length) B.sz) with
     |false=>rw[Y] at H;simp at H
     |true=>
      rw[Y] at H;simp only[zdr,za1] at H;subst H;simp only[zdt] at hn;simp only[za2,zaf] at Y;have e1:=zab Y.1.1;have e2:=zak Y.2;have J:=Y.1.2;have l0: ∀cs,v≠ .val (.agg cs):=λcs hh=>by
       subst hh;have:=J (.val (.agg cs)) (by simp[SV.cells]);simp[SV.one,Value.oneCell'] at this
      have j0:=SV.cells_conc β v l0;have q:=a0.blk id B hB (by rw[hk];simp);have N: ∀s∈v.cells,Live bl s:=by
       intro s hs;cases v with
       |agg cs=>exact λi hi=>hv i (by simp only[SV.ids];exact SV.mem_idss.2 ⟨s,hs,hi⟩)
       |_=>simp[SV.cells] at hs;subst hs;exact hv
      refine⟨addr β id e o,id,e,o,B,_,rfl, ?_,hB,rfl,rfl,rfl,a0.write hB hk hn e2 N⟩;have o0:(SV.concs β v.cells).length=v.cells.length:=by rw[SV.concs_eq];simp
      have e0: ∀j,j<v.cells.length->e*B.sz+o+j<(β id).cap*B.sz:=λj hj=>by
       have:=jS (e:=e) (o:=o+j) (n:=(β id).cap) (sz:=B.sz) (by have:=q.le;omega) (by omega);omega
      have g0:=run_storeCells_cells (P:=P) (β id).blk ((β id).off+e*(β id).sz+o) (SV.concs β v.cells) 0 w
       (λj hj=>by
         have:=q.ex (e*B.sz+o+j) (e0 j (by omega));rw[q.sz]
         rwa[show (β id).off+e*B.sz+o+0+j=(β id).off+(e*B.sz+o+j) by omega])
       (λj hj=>by
         have:=q.fr hk (e*B.sz+o+j) (e0 j (by omega));rw[q.sz]
         rwa[show (β id).off+e*B.sz+o+0+j=(β id).off+(e*B.sz+o+j) by omega])
       (λu hu=>by
         rw[SV.concs_eq] at hu;obtain⟨s,hs,rfl⟩:=zaz.1 hu
         exact SV.one_conc β (J s hs))
      have i0:(SV.concs β v.cells).toArray.size=n:=by simp[SV.concs_eq,e1]
      simp only[storeVar,zdE,eF w n0,zdD,Sem.run_ite,ne_eq,j0,i0,not_true_eq_false,if_false,zaY] at g0 ⊢;exact g0
    ·cases H
   ·cases H
  ·cases H
 ·cases H
def CtrOK (P:Program) (W0:Base) (f:FuncId) (k:Ctr):Prop:=
 ∀(β:zdI) (w:World) (args:zdJ) (b:Bool) (s:SV),Pres W0 w->k args=some (b,s)->b=true->
  s.ids= []/\Calls P f (SV.concs β args).toArray w λe w'=>e= .returned (s.conc β)/\Below w.heap.size w w'
def Callable (P:Program) (f:FuncId):Prop:= ∀(args:Array Value) (w:World),(callFunc f args).run P w= .ok (.enter f args) w
structure GamOK (P:Program) (W0:Base) (Γ:FuncId->Option Ctr):Prop where
 ctr: ∀f k,Γ f=some k->CtrOK P W0 f k
 call: ∀f k,Γ f=some k->Callable P f
theorem GamOK.sub {P:Program} {W0 B:Base} {Γ:zdP} (h:GamOK P W0 Γ) (J:SubB B W0):GamOK P B Γ:=
 {h with ctr:=λf k H β w args b s hp=>h.ctr f k H β w args b s (J.pres hp)}
variable {A:AS} {a:Act} {G:List (Nat×Bool)} {c:Call} {f:FuncId} {args:zdJ}
theorem nR (h:FR β A a) (hG:DX a G) (J:target A.tm G c=some (f,args)) (hf:Callable P f) (ty:TypeId) (w:World):
 (do let d <-resolve a.eval c ty;invoke d.target d.args).run P w= .ok (.enter f (SV.concs β args).toArray) w/\ ∀s∈args,Live A.bl s:=by
 unfold target at J;split at J
 ·rename_i x hx;split at J
  ·rename_i g first caps as Y N
   simp only[za1,zag] at J;obtain⟨rfl,rfl⟩:=J;obtain⟨e1,l1⟩:=bu h hG Y;obtain⟨e2,l2⟩:=gQ h hG N;refine⟨?_, ?_⟩
   ·have e3:c.args.map a.eval=(SV.concs β as).toArray:=by apply zaW;simp[e2]
    simp only[resolve,hx,e1,e3,SV.conc,Deferred.ofValue,zdE,zdF,zdD,invoke];have:=hf ((SV.concs β first).toArray++(SV.concs β as).toArray++(SV.concs β caps).toArray) w;rw[this]
    congr 2
    apply zaW;simp[SV.concs_eq]
   ·intro s H;simp only[za8] at H;rcases H with (H|H)|H
    ·exact λi hi=>l1 i (by simp only[SV.ids,za8];exact .inl (SV.mem_idss.2 ⟨s,H,hi⟩))
    ·exact l2 s H
    ·exact λi hi=>l1 i (by simp only[SV.ids,za8];exact .inr (SV.mem_idss.2 ⟨s,H,hi⟩))
  ·cases J
 ·cases J
theorem nU (h:FR β A a) (hG:DX a G) (J:target A.tm G c=some (f,args)):True/\ ∀s∈args,Live A.bl s:=by
 refine⟨trivial, ?_⟩;unfold target at J;split at J
 ·split at J
  ·rename_i g first caps as Y N
   simp only[za1,zag] at J;obtain⟨rfl,rfl⟩:=J;have l1:=(bu h hG Y).2;have l2:=(gQ h hG N).2;intro s H;simp only[za8] at H;rcases H with (H|H)|H
   ·exact λi hi=>l1 i (by simp only[SV.ids,za8];exact .inl (SV.mem_idss.2 ⟨s,H,hi⟩))
   ·exact l2 s H
   ·exact λi hi=>l1 i (by simp only[SV.ids,za8];exact .inr (SV.mem_idss.2 ⟨s,H,hi⟩))
  ·cases J
 ·cases J
theorem pd {m:Bool}: ∀(x:SV) (l:zdJ) (s:SV) (w:World),mms m x l=some s->
 ((SV.concs β l).foldlM (if m then Builtin.max2 else Builtin.min2) (x.conc β)).run P w= .ok (s.conc β) w/\(s=x\/s.ids= [])
 |x, [],s,w,h=>by simp[mms] at h;subst h;simp[SV.concs]
 |x,y::r,s,w,h=>by
  simp only[mms] at h;split at h
  ·rename_i z H;unfold mm at H;split at H
   ·rename_i k a Y b;simp at H;subst H;obtain⟨J,N⟩:=pd _ r s w h;refine⟨?_, ?_⟩
    ·simp only[SV.concs,List.foldlM_cons,zdE];cases m
     ·simp only[SV.conc,zbn,if_false,Builtin.min2,zdF,zdD,zdq] at J ⊢;exact J
     ·simp only[SV.conc,if_true,Builtin.max2,zdF,zdD,zdr] at J ⊢;exact J
    ·rcases N with rfl|N
     ·right;simp[SV.ids]
     ·exact .inr N
   ·cases H
  ·cases h
theorem Ag {s:SV} (h:Nv P t x=some s) (ty:TypeId) (w:World):(Builtin.len_ #[t] ty #[x.conc β]).run P w= .ok (s.conc β) w/\s.ids= []:=by
 unfold Nv at h;split at h<;>simp at h
 all_goals
  subst h;rename_i H;simp[Builtin.len_,run_underlying H,SV.conc,goInt,SV.ids]
end
section
variable {P:Program} {W0:Base}
theorem DI (a b:zdG):(a==b)=seq a b:=by
 obtain⟨⟨x⟩⟩:=a;obtain⟨⟨y⟩⟩:=b;show ((⟨x⟩:Array UInt8)==⟨y⟩)=(x==y);simp
variable {β:zdI} {t:TypeId} {b:Bool}
theorem js {x y:SV} (h:keq P t x y=some b):
 ∃d,P.underlying t=some d/\MapKept.IsKey d (x.conc β)/\Instr.sameNow d (x.conc β) (y.conc β)=some b:=by
 unfold keq at h;split at h
 ·rename_i k0 k a Y c J;cases H:(kEq k Y&&kEq k0 k) with
  |false=>rw[H] at h;cases h
  |true=>
   rw[H] at h;simp only[zdr,za1] at h;simp only[za2] at H;have N:=rF H.1;have e2:=rF H.2;subst N;subst e2;subst h;exact⟨_,J,by simp[SV.conc,MapKept.IsKey],by simp[SV.conc,Instr.sameNow]⟩
 ·rename_i a c J;simp only[za1] at h;subst h;exact⟨_,J,by simp[SV.conc,MapKept.IsKey],by simp only[SV.conc,Instr.sameNow,DI]⟩
 ·cases h
def pf (β:zdI):Nat->List (SV×SV)->List MapEntry
 |_, []=> []
 |i,(k,v)::r=>{key:=k.conc β,val:=v.conc β,born:=i}::pf β (i+1) r
theorem lG {β:zdI} {get:zdM} {es:Array MapEntry} (h1: ∀e,e<es.size-> ∃k v,get e= [k,v]/\es[e]? =some {key:=k.conc β,val:=v.conc β,born:=e}) (h2: ∀e,es.size<=e->get e= []):
 ∀(n e:Nat) (l:List (SV×SV)),e<=es.size->Aa get n e=some l->es.toList.drop e=pf β e l/\e+l.length=es.size/\ ∀p∈l,∃i,get i= [p.1,p.2]
 |0,e,l,_,h=>by simp[Aa] at h
 |n+1,e,l,he,h=>by
  simp only[Aa] at h;rcases zah e es.size with H|a0
  ·obtain⟨k,v,k1,k2⟩:=h1 e H;rw[k1] at h;simp only[zbE] at h;obtain⟨r,hr,rfl⟩:=h;obtain⟨N,a2,Y⟩:=lG h1 h2 n (e+1) r H hr;refine⟨?_,by simp;omega,λp hp=> ?_⟩
   ·have J:es.toList[e]? =some {key:=k.conc β,val:=v.conc β,born:=e}:=by simpa using k2
    rw[zaH (by simpa using H),N];rw[zaa (by simpa using H)] at J;simp only[pf,za1] at J ⊢;rw[J]
   ·rcases zai.1 hp with rfl|hp
    ·exact⟨e,k1⟩
    ·exact Y p hp
  ·obtain rfl:e=es.size:=by omega
   rw[h2 _ (za0 _)] at h;simp only[za1] at h;subst h;exact⟨by simp[pf],by simp,λp hp=>by cases hp⟩
theorem mL {β:zdI} {t:TypeId} {k:SV} {d:TypeDesc} (J:P.underlying t=some d): ∀(l:List (SV×SV)) (i j:Nat) (r:Option SV),xY P t k l=some r->
 (∀v,r=some v-> ∃p∈l,p.2=v)/\ ∃q,Instr.findNow d (k.conc β) (pf β i l) j=some q/\q.map (·.2)=r.map (SV.conc β)
 | [],i,j,r,h=>by
   simp only[xY,za1] at h;subst h;exact⟨λv hv=>(by cases hv),none,rfl,rfl⟩
 |(k',v)::l,i,j,r,h=>by
  simp only[xY] at h;split at h
  ·rename_i b Y;obtain⟨N,h1,_,h2⟩:=js (β:=β) Y;rw[J] at h1;obtain rfl:d=N:=by simpa using h1
   cases b with
   |true=>
    simp only[zdr,za1] at h;subst h;exact⟨λu H=>⟨_,zbF,by simpa using H⟩,some (j,v.conc β),by simp only[pf,Instr.findNow,h2],rfl⟩
   |false=>
    obtain⟨k2,q,k3,k4⟩:=mL J l (i+1) (j+1) r h;exact⟨λu H=>by obtain⟨p,hp,e⟩:=k2 u H;exact⟨p,zan _ hp,e⟩,q,by simp only[pf,Instr.findNow,h2];exact k3,k4⟩
  ·cases h
theorem pg {β:zdI} {t:TypeId} {k:SV} {d:TypeDesc} (H:P.underlying t=some d): ∀(l:List (SV×SV)) (i j:Nat),Gb P t k l=some true->Instr.findNow d (k.conc β) (pf β i l) j=some none
 | [],i,j,_=>rfl
 |(k',v)::l,i,j,h=>by
  simp only[Gb] at h;split at h
  ·rename_i b c N Y;simp only[za1,za2,zap] at h;obtain⟨rfl,rfl⟩:=h;obtain⟨J,h1,_,h2⟩:=js (β:=β) N;rw[H] at h1;obtain rfl:d=J:=by simpa using h1
   simp only[pf,Instr.findNow,h2];exact pg H l (i+1) (j+1) Y
  ·cases h
theorem lH (bo:Bool) (k:Nat): ∀(L:List (Nat×Int)) (i j:Nat),
 (Instr.findNow (.int .i64) (.int .i64 k) (dS bo i L) j=some none/\(∀p∈L,p.1≠k)/\d9 L k=0)\/
 ∃m z,Instr.findNow (.int .i64) (.int .i64 k) (dS bo i L) j=some (some (j+m,valF bo z))/\L[m]? =some (k,z)/\d9 L k=z/\ ∀n,n<m-> ∀p,L[n]? =some p->p.1≠k
 | [],i,j=> .inl ⟨rfl,by simp,rfl⟩
 |(J,v)::L,i,j=>by
  by_cases h:J=k
  ·subst h;exact .inr ⟨0,v,by simp[dS,Instr.findNow,Instr.sameNow],by simp,by simp[d9],λn N=>by omega⟩
  ·have H:((k:Int)==(J:Int))=false:=by rw[zdw];omega
   rcases lH bo k L (i+1) (j+1) with ⟨h1,h2,h3⟩|⟨m,z,h1,h2,h3,h4⟩
   ·refine .inl ⟨by simp only[dS,Instr.findNow,Instr.sameNow,if_true,H];exact h1,λp hp=> ?_,by simp[d9,h,h3]⟩;rcases zai.1 hp with rfl|hp
    ·exact h
    ·exact h2 p hp
   ·refine .inr ⟨m+1,z,by simp only[dS,Instr.findNow,Instr.sameNow,if_true,H];rw[h1,show j+1+m=j+(m+1) by omega],by simpa using h2,by simp[d9,h,h3],λn N p hp=> ?_⟩;cases n with
    |zero=>simp at hp;subst hp;exact h
    |succ n=>exact h4 n (by omega) p (by simpa using hp)
theorem aaR {z:Value} (h:(P.info? t).bind (·.zero)=some z) (w:World):(zeroValue t).run P w= .ok z w:=by
 cases hi:P.info? t with
 |none=>simp[hi] at h
 |some i=>simp[hi] at h;simp[zeroValue,typeInfo,hi,h]
theorem ye (bl:zdL) (z:Value):Live bl (ofV z):=λi hi=>by rw[BX] at hi;cases hi
theorem iO (ok:Bool) (v:SV) (b:Bool):(am5 ok v b).conc β=if ok then .tuple #[v.conc β, .bool b] else v.conc β:=by
 cases ok<;>simp[am5,SV.conc,SV.concs]
variable {bl:zdL} {ok:Bool}
theorem iP {v:SV} (h:Live bl v):Live bl (am5 ok v b):=by
 cases ok with
 |false=>exact h
 |true=>
  intro i hi;simp only[am5,zdr,SV.ids,SV.idss,zbf,za8] at hi;exact h i (by simpa using hi)
variable {hq:Bool} {m k:SV} {E:Eff}
theorem lI (h:DE P hq bl t m k ok=some E):
 ∃i B,m= .mp i/\bl i=some B/\E.rd= [i]/\E.wr=none/\E.nw=none/\ ∀bl',bl' i=bl i->DE P hq bl' t m k ok=some E:=by
 unfold DE at h ⊢;split at h
 ·rename_i kt Y i J;split at h
  ·rename_i B z hB N;have shape:E.rd= [i]/\E.wr=none/\E.nw=none:=by
    split at h
    ·split at h
     ·cases hq with
      |true=>
       simp only[zdr] at h;split at h
       ·simp only[za1] at h;subst h;exact⟨rfl,rfl,rfl⟩
       ·cases h
      |false=>
       simp only[zdq] at h;split at h
       ·simp only[za1] at h;subst h;exact⟨rfl,rfl,rfl⟩
       ·simp only[za1] at h;subst h;exact⟨rfl,rfl,rfl⟩
       ·cases h
     ·cases h
    ·split at h
     ·simp only[za1] at h;subst h;exact⟨rfl,rfl,rfl⟩
     ·cases h
    ·split at h
     ·simp only[za1] at h;subst h;exact⟨rfl,rfl,rfl⟩
     ·cases h
    ·cases h
   exact⟨i,B,rfl,hB,shape.1,shape.2.1,shape.2.2,λbl' H=>by simp only[J,H,hB,N];exact h⟩
  ·cases h
 ·cases h
theorem Ah {w:World} (i0:BC W0 bl β w) (h:DE P hq bl t m k ok=some E) (hn:E.need=true):
 (Instr.lookup t (m.conc β) (k.conc β) ok).run P w= .ok (E.out.conc β) w/\Live bl E.out:=by
 unfold DE at h;split at h
 ·rename_i kt et i ht;split at h
  ·rename_i B z hB hz;have e0:=aaR (P:=P) hz w;split at h
   ·rename_i H;obtain⟨m1,m2,m3,m4⟩:=i0.maps.ok i B hB (by rw[H];rfl);rw[H] at m4;obtain⟨es,e1,e2,e3,e4⟩:=m4;split at h
    ·rename_i l c hl hc;obtain⟨a1,a2,a3⟩:=lG e3 e4 64 0 l (zaA _) hl;rw[zaZ] at a1;obtain⟨d,hd,Y,_⟩:=js (β:=β) hc;have N:=λem=>MapKept.run_checkKey (w:=w) hd Y em 9999;have g0: ∀{q:Option (Nat×Value)},Instr.findNow d (k.conc β) (pf β 0 l) 0=some q->q.map (·.2)=(none:Option SV).map (SV.conc β)->(Instr.lookup t (SV.conc β (.mp i)) (k.conc β) ok).run P w= .ok ((am5 ok (ofV z) false).conc β) w/\Live bl (am5 ok (ofV z) false):=by
      intro q k3 k4;rw[<-a1] at k3;have j0:=MapKept.run_findKey (w:=w) hd k3;cases q with
      |some q=>simp at k4
      |none=>
       refine⟨?_,iP (ye _ z)⟩;rw[iO,rE];simp[Instr.lookup,SV.conc,run_underlying ht,MapKept.run_getObj_map e1,N,j0,e0,Result.andThen]
     cases hq with
     |true=>
      simp only[zdr] at h;split at h
      ·rename_i b hb;simp only[za1] at h;subst h;obtain rfl:b=true:=hn;exact g0 (pg (β:=β) hd l 0 0 hb) rfl
      ·cases h
     |false=>
      simp only[zdq] at h;split at h
      ·rename_i v hf;simp only[za1] at h;subst h;obtain⟨k2,q,k3,k4⟩:=mL (β:=β) hd l 0 0 _ hf;rw[<-a1] at k3;have j0:=MapKept.run_findKey (w:=w) hd k3;cases q with
       |none=>simp at k4
       |some q=>
        obtain⟨q1,q2⟩:=q;simp only[zb0,za1] at k4;subst k4;refine⟨?_,iP ?_⟩
        ·rw[iO];simp[Instr.lookup,SV.conc,run_underlying ht,MapKept.run_getObj_map e1,N,j0,Result.andThen]
        ·obtain⟨p,hp,rfl⟩:=k2 v rfl;obtain⟨j,hj⟩:=a3 p hp;exact i0.maps.live i B j p.2 hB (by rw[H];rfl) (by rw[hj];simp)
      ·rename_i hf;simp only[za1] at h;subst h;obtain⟨_,q,k3,k4⟩:=mL (β:=β) hd l 0 0 _ hf;exact g0 k3 k4
      ·cases h
    ·cases h
   ·rename_i H;obtain⟨m1,m2,m3,m4⟩:=i0.maps.ok i B hB (by rw[H];rfl);rw[H] at m4;obtain⟨L,e1,e2⟩:=m4;split at h
    ·rename_i kz hu;simp only[za1] at h;subst h;have J:=hn;simp only[za2,zap,zdt] at J;obtain⟨⟨rfl,J⟩,a0⟩:=J;have l0:((kz.toNat:Int))=kz:=zcc J;have Y:MapKept.IsKey (.int .i64) (.int .i64 kz):=rfl;have N:=λem=>MapKept.run_checkKey (w:=w) hu Y em 9999;refine⟨?_,λj hj=>by simp[SV.ids] at hj⟩;simp only[e2];have hf:=lH false kz.toNat L 0 0;rw[l0] at hf;rcases hf with ⟨h1,_,h3⟩|⟨n,z',h1,_,h3,_⟩
     ·have n0:z= .int .i64 0:=by
       unfold MS at a0;split at a0
       ·rename_i n;rw[beq_iff_eq.1 a0]
       ·cases a0
      rw[h3];simp[Instr.lookup,SV.conc,run_underlying ht,MapKept.run_getObj_map e1,N,MapKept.run_findKey hu h1,e0,n0,Result.andThen]
     ·rw[h3];simp[Instr.lookup,SV.conc,run_underlying ht,MapKept.run_getObj_map e1,N,MapKept.run_findKey hu h1,Result.andThen,valF]
    ·cases h
   ·rename_i H;obtain⟨m1,m2,m3,m4⟩:=i0.maps.ok i B hB (by rw[H];rfl);rw[H] at m4;obtain⟨L,e1,e2,_⟩:=m4;split at h
    ·rename_i kz hu;simp only[za1] at h;subst h;have J:=hn;simp only[za2,zap,zdt] at J;obtain⟨⟨rfl,J⟩,a0⟩:=J;have l0:((kz.toNat:Int))=kz:=zcc J;have Y:MapKept.IsKey (.int .i64) (.int .i64 kz):=rfl;have N:=λem=>MapKept.run_checkKey (w:=w) hu Y em 9999;refine⟨?_,λj hj=>by simp[SV.ids] at hj⟩;simp only[e2];have hf:=lH true kz.toNat L 0 0;rw[l0] at hf;rcases hf with ⟨h1,_,h3⟩|⟨n,z',h1,_,h3,_⟩
     ·have n0:z= .bool false:=by
       unfold MT at a0;split at a0
       ·rename_i b;cases b<;>simp_all
       ·cases a0
      rw[h3];simp[Instr.lookup,SV.conc,run_underlying ht,MapKept.run_getObj_map e1,N,MapKept.run_findKey hu h1,e0,n0,Result.andThen]
     ·rw[h3];simp[Instr.lookup,SV.conc,run_underlying ht,MapKept.run_getObj_map e1,N,MapKept.run_findKey hu h1,Result.andThen,valF]
    ·cases h
   ·cases h
  ·cases h
 ·cases h
end
section
variable {P:Program} {β:zdI} {W0:Base}
variable {E:Eff}
theorem cJ {o:Option SV} (h:avY o=some E): ∃s,o=some s/\E={out:=s}:=by
 unfold avY at h;split at h
 ·simp at h;exact⟨_,rfl,h.symm⟩
 ·cases h
variable {o:Option (Bool×SV)} {s:SV}
theorem rS {n:Bool} (h:BZ o=some (n,s)) (H:n=true):o=some (n,s):=by
 cases o with
 |some p=>exact h
 |none=>simp only[BZ,za1,zag] at h;rw[H] at h;cases h.1
theorem ia (h:pY o=some E): ∃b s,o=some (b,s)/\E={need:=b,out:=s}:=by
 unfold pY at h;split at h
 ·simp at h;exact⟨_,_,rfl,h.symm⟩
 ·cases h
structure Good (W0:Base) (bl:Nat->Option Blk) (id:Nat) (E:Eff) (β:Nat->Loc) (w':World) (β':Nat->Loc):Prop where
 bc:BC W0 (VO bl id E) β' w'
 same: ∀i,bl i≠none->β' i=β i
 live:Live (VO bl id E) E.out
def Runs (P:Program) (W0:Base) (bl:zdL) (id:Nat) (E:Eff) (β:zdI) (w:World) (s:Sem Next):Prop:=
 (∃w' β',s.run P w= .ok (.value (E.out.conc β')) w'/\Good W0 bl id E β w' β')\/
 (∃w' β',s.run P w= .ok .skip w'/\E.out= .val undef/\Good W0 bl id E β w' β')\/
 (∃f args,s.run P w= .ok (.enter f args) w/\Calls P f args w λe w'=> ∃β',e= .returned (E.out.conc β')/\Good W0 bl id E β w' β')
variable {bl:zdL} {id:Nat} {w:World}
theorem Runs.next {s:Sem Next} (h:Runs P W0 bl id E β w s) (o:Oper) (a:Act) (next:Act->World->Prop) (Q:zdN)
 (H: ∀w' β',Good W0 bl id E β w' β'->next (a.put o.dst (E.out.conc β')) w'):o.uponX P a next Q (s.run P w):=by
 rcases h with ⟨w',β',h,g⟩|⟨w',β',h,h2,g⟩|⟨f,args,h,J⟩
 ·rw[h];exact H w' β' g
 ·rw[h];have:=H w' β' g;rw[h2] at this;exact this
 ·rw[h];refine Calls.mono J ?_;rintro e w' ⟨β',rfl,g⟩;exact H w' β' g
theorem Runs.value {s:Sem Value} (H:BC W0 bl β w) (h:s.run P w= .ok (E.out.conc β) w) (h1:E.wr=none) (h2:E.nw=none) (J:Live bl E.out):
 Runs P W0 bl id E β w (do pure (.value (<-s))):=by
 refine .inl ⟨w,β,by simp[h], ?_,λ_ _=>rfl, ?_⟩
 ·simp[VO,h1,h2];exact H
 ·simp[VO,h1,h2];exact J
theorem Runs.value' {s:Sem Next} (H:BC W0 bl β w) (h:s.run P w= .ok (.value (E.out.conc β)) w) (h1:E.wr=none) (h2:E.nw=none) (J:Live bl E.out):
 Runs P W0 bl id E β w s:=by
 refine .inl ⟨w,β,h, ?_,λ_ _=>rfl, ?_⟩
 ·simp[VO,h1,h2];exact H
 ·simp[VO,h1,h2];exact J
theorem aW (h:s.ids= []):Live bl s:=λi hi=>by rw[h] at hi;cases hi
theorem Runs.var (H:BC W0 bl β w) (hid:bl id=none) {t:TypeId} {v:Value} {cs:zdJ} (hv:v.cells=(SV.concs β cs).toArray) (hl: ∀s∈cs,Live bl s) 
 (Y:E={out:= .ptr id 0 0,nw:=some {n:=1,sz:=cs.length,get:=λ_=>cs,kd:= .own}}):
 Runs P W0 bl id E β w (do pure (.value (.pointer (some (<-newVar t v))))):=by
 subst Y
 have k:=H.alloc (id:=id) hid (B:={n:=1,sz:=cs.length,get:=λ_=>cs,kd:= .own}) rfl (λ_ _=>rfl) (λe o s J N=>hl s (zal N)) cs (by simp) (λe o s J N=>by
  have:e=0:=by simp at J;exact J
  subst this
  simpa using N) t
 refine .inl ⟨_,_, ?_,⟨k,λi hi=>aC (λe=>hi (e▸hid)), ?_⟩⟩
 ·simp only[newVar,newRow,hv,zdE,run_newObj,zdD,zdF,World.alloc_eq,SV.conc,addr,aA];simp
 ·intro i hi;simp only[SV.ids,zaj] at hi;subst hi;simp[VO,az]
end
section
variable {P:Program} {β:zdI} {W0:Base}
variable {A:AS} {a:Act} {G:List (Nat×Bool)}
theorem jW {β:zdI} (h:FR β A a) (J:DX a G) {lo:Option Operand} (N:(lo.isSome==(lo.bind (ev A.tm G)).isSome)=true):
 lo.map a.eval=(lo.bind (ev A.tm G)).map (SV.conc β):=by
 cases lo with
 |none=>rfl
 |some x=>
  cases H:ev A.tm G x with
  |none=>simp[H] at N
  |some s=>simp[H,(bu h J H).1]
variable {t:TypeId} {i:Nat}
theorem mw {f:Field} (h:fieldAt P t i=some f): ∃fs,P.underlying t=some (.struct fs)/\fs[i]? =some f:=by
 unfold fieldAt at h;split at h
 ·rename_i fs H;exact⟨fs,H,by simpa using h⟩
 ·cases h
theorem nV {t:Nat} {b:Bool} (H:DX a G) (h:a.tmps.getD t undef= .bool b):DX a ((t,b)::G):=by
 intro p hp;simp only[zai] at hp;rcases hp with rfl|hp
 ·exact h
 ·exact H p hp
theorem rU: ∀{fs:List Field} {pl:List (Nat×Nat)},nM P fs=some pl->fs.mapM (λf=>(P.info? f.type).map λi=>(f.offset,i.size))=some pl
 | [],pl,h=>by simp[nM] at h;subst h;simp
 |f::fs,pl,h=>by
  simp only[nM] at h;split at h
  ·rename_i s r h1 h2;simp at h;subst h;unfold szT at h1;cases hi:P.info? f.type with
   |none=>simp[hi] at h1
   |some i=>
    simp[hi] at h1;subst h1;simp[zcB,hi,rU h2]
  ·cases h
variable {bl:zdL} {v:SV}
theorem rW (J:Live bl v): ∀s∈v.cells,Live bl s:=by
 intro s H;cases v with
 |agg cs=>exact λi hi=>J i (by simp only[SV.ids];exact SV.mem_idss.2 ⟨s,H,hi⟩)
 |_=>simp[SV.cells] at H;subst H;exact J
theorem M3 (z:zdK) (H:z≠ []): ∀(n i:Nat),i<n*z.length->(List.replicate n z).flatten[i]? =z[i%z.length]?
 |0,i,h=>by simp at h
 |n+1,i,h=>by
  have N:0<z.length:=zbo.2 H;rw[zcd,List.flatten_cons];by_cases hi:i<z.length
  ·rw[zbB hi,zbG hi]
  ·have J:i<n*z.length+z.length:=by rw[zce] at h;exact h
   rw[zbX (by omega),M3 z H n _ (by omega)]
   congr 1
   exact(Nat.mod_eq_sub_mod (by omega)).symm
theorem Yt {get:zdM}: ∀{n e:Nat} {r:List UInt8},kP get e n=some r->r.length=n
 |0,e,r,h=>by simp[kP] at h;subst h;rfl
 |n+1,e,r,h=>by
  simp only[kP] at h;split at h
  ·split at h
   ·rename_i J H;simp at h;subst h;simp[Yt H]
   ·cases h
  ·cases h
theorem uX {get:zdM}: ∀{n e:Nat} {r:List UInt8},kP get e n=some r-> ∃J:List Int,r=J.map (λz=>UInt8.ofNat z.toNat)/\ ∀(j:Nat) (z:Int),J[j]? =some z->get (e+j)= [.val (.int .u8 z)]
 |0,e,r,h=>by simp[kP] at h;subst h;exact⟨[],rfl,λj z H=>by simp at H⟩
 |n+1,e,r,h=>by
  simp only[kP] at h;split at h
  ·rename_i z Y;split at h
   ·rename_i r' N;simp at h;subst h;obtain⟨J,h1,h2⟩:=uX N;refine⟨z::J,by simp[h1],λj y H=> ?_⟩;cases j with
    |zero=>simp at H;subst H;exact Y
    |succ j=>
     have:=h2 j y (by simpa using H);rw[<-this];congr 1;omega
   ·cases h
  ·cases h
theorem rY: ∀(H:List Int) (s:zdG),H.foldl (λ(r:zdG) (n:Int)=>r.push (UInt8.ofNat n.toNat)) s=⟨(s.data.toList++H.map (λz=>UInt8.ofNat z.toNat)).toArray⟩
 | [],s=>by simp
 |z::H,s=>by
  rw[zbe,rY H]
  congr 1
  simp[ByteArray.push]
theorem mM: ∀{cs:zdJ} {l:List ByteArray},oY cs=some l-> ∀{i:Nat},i<cs.length->cs[i]? =some (.val (.string (F7 l i)))
 | [],_,_,i,hi=>by simp at hi
 |c::cs,l,h,i,hi=>by
  unfold oY at h;split at h
  ·rename_i H;cases H
  ·rename_i s r H;obtain⟨rfl,rfl⟩:=List.cons.inj H;split at h
   ·rename_i N J;simp only[za1] at h;subst h;cases i with
    |zero=>rfl
    |succ i=>simp only[zcf,F7];exact mM J (by simpa using hi)
   ·cases h
  ·cases h
theorem mN {k:IntKind}: ∀{cs:zdJ} {l:List Int},oZ k cs=some l-> ∀{i:Nat},i<cs.length->cs[i]? =some (.val (.int k (F8 l i)))
 | [],_,_,i,hi=>by simp at hi
 |c::cs,l,h,i,hi=>by
  unfold oZ at h;split at h
  ·rename_i H;cases H
  ·rename_i k' z r H;obtain⟨rfl,rfl⟩:=List.cons.inj H;cases J:kEq k' k with
   |false=>rw[J] at h;cases h
   |true=>
    rw[J] at h;have N:=rF J;subst N;simp only[zdr] at h;split at h
    ·rename_i l' Y;simp only[za1] at h;subst h;cases i with
     |zero=>rfl
     |succ i=>simp only[zcf,F8];exact mN Y (by simpa using hi)
    ·cases h
  ·cases h
theorem DJ {el:TypeId} {cs:zdJ} (J:xW P el=some false) (N:szT P el=some 1) (hi:i<cs.length) (h:Nu P el cs i 1=some v):kj P el cs (i*1)=some v:=by
 unfold Nu at h;split at h
 ·rename_i l H;simp only[za1] at h;subst h;simp only[kj,J,N,zbY];exact mM H hi
 ·split at h
  ·rename_i l H;simp only[za1] at h;subst h;simp only[kj,J,N,zbY];exact mN H hi
  ·exact h
theorem qR {r:zdJ} {n s e:Nat} (hl:r.length=n*s) (Y:e<n):je r s e=(r.drop (e*s)).take s:=by
 unfold je;cases J:Nat.beq s 1 with
 |false=>rfl
 |true=>
  have J:=zab J;subst J;have H:e<r.length:=by omega
  simp only[zdr];have key: ∀x:SV,r[e]? =some x-> [x]=(r.drop (e*1)).take 1:=by
   intro x N;rw[zbY];rw[zaa H] at N;rw[zaH H];simp only[za1] at N;simp[N]
  cases h1:oY r with
  |some l=>exact key _ (mM h1 H)
  |none=>
   cases h2:oZ .i64 r with
   |some l=>exact key _ (mN h2 H)
   |none=>rfl
variable {op:BinOp} {x y r:SV} {n:Bool}
theorem agq (H:J8 P op t x y=some (n,r)):r.ids= []:=by
 unfold J8 at H;split at H
 ·unfold J7 at H;split at H
  ·simp at H;rw[<-H.2];simp[SV.ids]
  ·simp at H;rw[<-H.2];simp[SV.ids]
  ·rename_i k1 N k2 Y _ _ _;cases J:kEq k1 k2 with
   |false=>simp[J] at H
   |true=>
    simp only[J,zdr] at H;split at H<;>(try split at H)<;>simp only[za1,zag,reduceCtorEq] at H<;>rw[<-H.2]<;>simp[SV.ids]
 ·unfold wk at H;split at H<;>simp only[za1,zag,reduceCtorEq] at H<;>rw[<-H.2]<;>simp[SV.ids]
 ·unfold DD at H;split at H<;>simp only[za1,zag,reduceCtorEq] at H<;>rw[<-H.2]<;>simp[SV.ids]
 ·cases hg:P.eqGuardType P.depth t with
  |true=>simp[hg] at H
  |false=>
   simp only[hg,zdq] at H;unfold DD at H;split at H<;>simp only[za1,zag,reduceCtorEq] at H<;>rw[<-H.2]<;>simp[SV.ids]
 ·cases H
theorem agr {z:Operand} (H:agm P op t z x y=some (n,r)):r.ids= []:=by
 unfold agm at H;split at H
 ·unfold Kt at H;split at H<;>simp only[za1,zag,reduceCtorEq] at H<;>rw[<-H.2]<;>rfl
 ·unfold Kt at H;split at H<;>simp only[za1,zag,reduceCtorEq] at H<;>rw[<-H.2]<;>rfl
 ·exact agq H
variable {w:World}
theorem az6 (H:BC W0 bl β w) {g:Nat} {B:Blk} (hB:bl g=some B) (J:B.kd= .glb) (N:B.nn=true):addr β g 0 0=⟨g,0,none⟩:=by
 have q:=H.blk g B hB (by rw[J];simp);obtain⟨_,h⟩:=H.old g B hB (by rw[J];rfl) (q.nn N);obtain⟨h1,h2⟩:=h J;unfold addr;rw[h1,h2];simp
theorem aBX (H:BC W0 bl β w) (s:SV):(gpS bl s).conc β=s.conc β:=by
 unfold gpS;split
 ·rename_i g;split
  ·rename_i B hB;split
   ·rename_i J;cases N:B.nn with
    |false=>rfl
    |true=>
     show Value.pointer (some (addr β g 0 0))=_;rw[az6 H hB J N];rfl
   ·rfl
  ·rfl
 ·rfl
theorem uY {Γ:zdP} (hΓ:GamOK P W0 Γ) (h:FR β A a) (J:BC W0 A.bl β w) (hG:DX a G) {id:Nat} (hid:A.bl id=none)
 (o:Oper) {E:Eff} (H:eff P Γ A.hq A.tm A.bl G id o.op=some E) (hn:E.need=true):Runs P W0 A.bl id E β w (execOp a.eval o):=by
 obtain⟨dst,op,ty,pos,after,gd⟩:=o;cases op with
 |move x=>
  simp only[eff] at H;obtain⟨s,N,rfl⟩:=cJ H;obtain⟨Y,l1⟩:=bu h hG N;exact Runs.value' J (by simp[execOp,Y]) rfl rfl l1
 |assign x=>
  simp only[eff] at H;obtain⟨s,N,rfl⟩:=cJ H;obtain⟨Y,l1⟩:=bu h hG N;exact Runs.value' J (by simp[execOp,Y]) rfl rfl l1
 |pick c x y=>
  simp only[eff] at H;split at H
  ·rename_i t;split at H
   ·rename_i b hb;split at H
    ·rename_i sx sy hx hy;obtain⟨s,N,rfl⟩:=cJ H;unfold Ga at N;split at N
     ·rename_i p q;simp at N;subst N;obtain⟨Y,_⟩:=bu h hG hb;have ht:a.tmps.getD t undef= .bool b:=Y;refine Runs.value' J ?_ rfl rfl (aW (by simp[SV.ids]));cases b
      ·obtain⟨e3,_⟩:=bu h (nV hG ht) hy;simp[execOp,Y,e3,SV.conc,asBool]
      ·obtain⟨e2,_⟩:=bu h (nV hG ht) hx;simp[execOp,Y,e2,SV.conc,asBool]
     ·simp only[za1] at N;subst N;obtain⟨Y,_⟩:=bu h hG hb;have ht:a.tmps.getD t undef= .bool b:=Y;cases b
      ·obtain⟨e3,l3⟩:=bu h (nV hG ht) hy;exact Runs.value' J (by simp[execOp,Y,e3,SV.conc,asBool]) rfl rfl l3
      ·obtain⟨e2,l2⟩:=bu h (nV hG ht) hx;exact Runs.value' J (by simp[execOp,Y,e2,SV.conc,asBool]) rfl rfl l2
    ·cases H
   ·cases H
  ·cases H
 |alloc t=>
  simp only[eff] at H;split at H
  ·rename_i cs hz;simp at H;obtain⟨v,hv,hc,hi⟩:=aIC (β:=β) w hz;have k:=Runs.var (P:=P) J hid (t:=t) hc (λs N=>aW (hi s N)) H.symm;simp only[execOp];have e: ∀(w':World) r,Sem.run P (do pure (Next.value (Value.pointer (some (<-newVar t v))))) w=r->Sem.run P (do pure (Next.value (<-Instr.alloc t true (.tuple #[])))) w=r:=by
    intro w' r hr;rw[<-hr];simp[Instr.alloc,hv]
   rcases k with ⟨w',β',h1,g⟩|⟨w',β',h1,h2,g⟩|⟨f,args,h1,g⟩
   ·exact .inl ⟨w',β',e w' _ h1,g⟩
   ·exact .inr (.inl ⟨w',β',e w' _ h1,h2,g⟩)
   ·exact .inr (.inr ⟨f,args,e w _ h1,g⟩)
  ·cases H
 |box t x=>
  simp only[eff] at H;split at H
  ·cases H
  ·rename_i v g0 hv;simp at H;obtain⟨Y,l1⟩:=bu h hG hv;have hc:=SV.cells_conc β v (λcs hh=>g0 cs hh);have hl: ∀s∈v.cells,Live A.bl s:=by
    intro s N;cases v with
    |agg cs=>exact λi hi=>l1 i (by simp only[SV.ids];exact SV.mem_idss.2 ⟨s,N,hi⟩)
    |_=>simp[SV.cells] at N;subst N;exact l1
   have k:=Runs.var (P:=P) J hid (t:=t) hc hl H.symm;simp only[execOp,Instr.box,Y];simpa using k
  ·cases H
 |build t parts=>
  simp only[eff] at H;split at H
  ·rename_i cs ps hz hp;obtain⟨v,hv,hc,hi⟩:=aIC (β:=β) w hz;obtain⟨Y,l1⟩:=jf h hG hp;have e2:(parts.map λ(i,x)=>(i,a.eval x)).toList=ps.map (λp=>(p.1,p.2.conc β)):=by simpa using Y
   have q0: ∀s∈cs,Live A.bl s:=λs N=>aW (hi s N);have g0: ∀p∈ps,∀c,p.2≠ .val (.agg c):=λp hp=>(l1 p hp).2;have w0: ∀r:zdJ,(∀s∈r,s∈cs\/ ∃p∈ps,s∈p.2.cells)->Live A.bl (.agg r):=by
    intro r hr i hi;simp only[SV.ids] at hi;obtain⟨s,N,hi⟩:=SV.mem_idss.1 hi;rcases hr s N with h1|⟨p,hp,h1⟩
    ·exact q0 s h1 i hi
    ·exact rW (l1 p hp).1 s h1 i hi
   split at H
   ·rename_i fs hu;split at H
    ·rename_i pl u1;split at H
     ·rename_i r hr;simp at H;subst H;obtain⟨k1,k2,_⟩:=jV (β:=β) ps cs r hr g0;refine Runs.value J ?_ rfl rfl (w0 r k2);simp only[Instr.build,zdE,hv,zdD,run_underlying hu,zdd,e2,hc,SV.conc];have N0:=run_places (P:=P) w fs.toList pl (rU u1);simp only[Sem.run_map,zdE,zdF] at N0 ⊢;simp[N0,k1]
     ·cases H
    ·cases H
   ·rename_i n e hu;split at H
    ·rename_i sz a0;split at H
     ·rename_i r hr;simp at H;subst H;obtain⟨k1,k2,_⟩:=jV (β:=β) ps cs r hr g0;refine Runs.value J ?_ rfl rfl (w0 r k2);simp only[Instr.build,zdE,hv,zdD,run_underlying hu,eF w a0,hc,e2,k1,zdF,SV.conc]
     ·cases H
    ·cases H
   ·cases H
  ·cases H
 |buildSlice t n parts=>
  simp only[eff] at H;split at H
  ·rename_i e ps hu hp;obtain⟨Y,l1⟩:=jf h hG hp;have e2:(parts.map λ(i,x)=>(i,a.eval x)).toList=ps.map (λp=>(p.1,p.2.conc β)):=by simpa using Y
   have g0: ∀p∈ps,∀c,p.2≠ .val (.agg c):=λp hp=>(l1 p hp).2;split at H
   ·rename_i s z a0 hz;obtain⟨v,hv,hc,hi⟩:=aIC (β:=β) w hz;cases hb:(Nat.beq z.length s&&Nat.ble (n*s) 16777216&&Nat.ble 1 s) with
    |false=>rw[hb] at H;simp at H
    |true=>
     rw[hb] at H;simp only[zdr] at H;simp only[za2] at hb;have b1:=zab hb.1.1;have b2:=zak hb.1.2;have b3:=zak hb.2;split at H
     ·rename_i r hr;simp at H;subst H;obtain⟨k1,k2,k3⟩:=jV (β:=β) ps _ r hr g0;have e0:r.length=n*s:=by rw[k3];simp[b1]
      have E0: ∀x∈r,Live A.bl x:=by
       intro x hx;rcases k2 x hx with h1|⟨p,hp,h1⟩
       ·simp only[List.mem_flatten,List.mem_replicate] at h1;obtain⟨l,⟨_,rfl⟩,hx⟩:=h1;exact aW (hi x hx)
       ·exact rW (l1 p hp).1 x h1
      have kk:=J.alloc (id:=id) hid (B:={n:=n,sz:=s,get:=je r s,kd:= .own}) rfl
       (λe H=>by
         have:(e+1)*s<=n*s:=zbl _ H;rw[zaG] at this;simp only[];rw[qR e0 H]
         simp[e0];omega)
       (λe o x H hx=>by
         simp only[] at hx;rw[qR e0 H] at hx
         exact E0 x (zbD (zbd (zal hx)))) r e0
       (λe o x H hx=>by
         have ho:o<s:=by
          simp only[] at hx;rw[qR e0 H] at hx;rcases zah o s with h'|h'
          ·exact h'
          ·rw[zad (by simp;omega)] at hx;cases hx
         simp only[] at hx;rw[qR e0 H] at hx;rw[zcb ho,zcx] at hx
         exact hx) e
      refine .inl ⟨_,_, ?_,⟨kk,λi hi=>aC (λe=>hi (e▸hid)), ?_⟩⟩
      ·have B1:(if n*s=0 then(#[]:Array Value) else(SV.concs β z).toArray)=if n*s=0 then #[] else(SV.concs β z).toArray:=rfl
       have R0:(Array.range (n*s)).map (λi=>(SV.concs β z).toArray[i%(SV.concs β z).toArray.size]!)=(SV.concs β (List.replicate n z).flatten).toArray:=by
        have o0:(SV.concs β z).length=s:=by rw[SV.concs_eq,zaB,b1]
        apply Array.ext_getElem?;intro i;by_cases hi:i<n*s
        ·have g:=M3 (SV.concs β z) (by intro e;rw[e] at o0;simp at o0;omega) n i (by rw[o0];exact hi);have hm:i%s<s:=zar _ (by omega);rw[o0] at g;have g2:SV.concs β (List.replicate n z).flatten=(List.replicate n (SV.concs β z)).flatten:=by
          simp[SV.concs_eq,List.map_flatten]
         rw[g2];simp only[zdc,g,zbp,o0];rw[Array.getElem?_map,Array.getElem?_range];simp[hi];rw[zaa (by omega)];rfl
        ·rw[zcC (by simp;omega),zcC (by simp[SV.concs_eq,b1];omega)]
       simp only[execOp,Instr.buildSlice,zdE,run_underlying hu,zdD,eF w a0,Sem.run_ite,e2];rw[if_neg (by omega)];by_cases h0:n*s=0
       ·have Z0:n=0:=by rcases Nat.mul_eq_zero.1 h0 with h|h<;>omega
        subst Z0;simp only[zcD,if_true,zdF,zdD,Array.range_zero',Array.map_empty] at R0 k1 ⊢;simp only[List.replicate_zero,List.flatten_nil,SV.concs] at k1;simp only[k1];simp only[newRow,zdE,run_newObj,zdD,zdF,World.alloc_eq,SV.conc,addr,aA];simp[Bool.cond_self]
       ·rw[if_neg h0];simp only[zdE,hv,zdD,zdF,hc,R0,k1];simp only[newRow,zdE,run_newObj,zdD,zdF,World.alloc_eq,SV.conc,addr,aA];simp[Bool.cond_self]
      ·intro i hi;simp only[SV.ids,zaj] at hi;subst hi;simp[VO,az]
     ·cases H
   ·cases H
  ·cases H
 |load t x=>
  simp only[eff] at H;split at H
  ·rename_i s N;obtain⟨Y,l1⟩:=bu h hG N;obtain⟨ad,h1,h2,h3,h4,h5⟩:=qe (P:=P) J H hn;rw[aBX J] at h1;refine Runs.value J ?_ h4 h5 h3;simp only[Instr.loadAt,Y,h1,Instr.sureAddr,zdE,zdF,zdD,h2]
  ·cases H
 |store t x y=>
  simp only[eff] at H;split at H
  ·rename_i s v N hv;obtain⟨Y,l1⟩:=bu h hG N;obtain⟨e2,l2⟩:=bu h hG hv;obtain⟨ad,i,e,off,B,w',h1,h2,h3,h4,h5,h6,h7⟩:=wu (P:=P) J H hn l2;refine .inr (.inl ⟨w',β, ?_,h6,⟨?_,λ_ _=>rfl, ?_⟩⟩)
   ·simp only[execOp,Instr.storeAt,Y,h1,e2,Instr.sureAddr,zdE,zdF,zdD,h2]
   ·simp only[VO,h4,h5,h3];exact h7
   ·rw[h6];exact aW (by simp[SV.ids])
  ·cases H
 |nilCheck x=>
  simp only[eff] at H;split at H
  ·rename_i i e off N;simp at H;subst H;obtain⟨Y,l1⟩:=bu h hG N;exact Runs.value' J (by simp[execOp,Y,SV.conc]) rfl rfl l1
  ·rename_i f as cs N;simp at H;subst H;obtain⟨Y,l1⟩:=bu h hG N;exact Runs.value' J (by simp[execOp,Y,SV.conc]) rfl rfl l1
  ·cases H
 |binOp x1 t x y C1=>
  simp only[eff] at H;split at H
  ·rename_i s v N hv;obtain⟨n,r,hr,rfl⟩:=ia H;replace hr:=rS hr hn;obtain⟨Y,l1⟩:=bu h hG N;obtain⟨e2,l2⟩:=bu h hG hv;have k:=aet (P:=P) (β:=β) hr hn x (λv H0=>by subst H0;rw[<-e2];rfl) w;refine Runs.value J ?_ rfl rfl ?_
   ·rw[Y,e2];exact k
   ·refine aW ?_;exact agr hr
  ·cases H
 |unOp D1 t x=>
  simp only[eff] at H;split at H
  ·rename_i s N;obtain⟨n,r,hr,rfl⟩:=ia H;replace hr:=rS hr hn;obtain⟨Y,l1⟩:=bu h hG N;refine Runs.value J (by rw[Y];exact DH hr hn w) rfl rfl (aW ?_);unfold unS at hr;split at hr<;>simp only[za1,zag,reduceCtorEq] at hr<;>rw[<-hr.2]<;>simp[SV.ids]
  ·cases H
 |convert src I0 x=>
  simp only[eff] at H;split at H
  ·rename_i k n N;obtain⟨Y,l1⟩:=bu h hG N;split at H
   ·rename_i d k' hu hd;simp at H;subst H;refine Runs.value J ?_ rfl rfl (aW (by simp[SV.ids]));simp only[Y,SV.conc,convert,zdE,run_underlying hu,run_underlying hd,zdD,Conv.intToInt];rw[aBU hn];simp
   ·cases H
  ·rename_i str N;obtain⟨Y,l1⟩:=bu h hG N;split at H
   ·rename_i d hu hd;simp at H;subst H;refine Runs.value J ?_ rfl rfl (aW (by simp[SV.ids]));simp only[Y,SV.conc,convert,zdE,run_underlying hu,run_underlying hd,zdD];simp
   ·rename_i d el hu hd;split at H
    ·rename_i B0;simp only[za1] at H;subst H;have O0:=Lib.run_convert_string_bytes (P:=P) w src I0 el str hu hd B0;have v0:=grownCap_ge w str.size 0 el;have q0:(Lib.bytesCells w el str).size=grownCap w str.size 0 el:=by
      simp only[Lib.bytesCells,Array.size_append,Array.size_map,Array.size_replicate];show str.size+(grownCap w str.size 0 el - str.size)=_;omega
     have kk:=J.allocW (id:=id) hid (w':=Lib.bytesWorld w el str) (B:={n:=str.size,sz:=1,get:=λe=> [.val (.int .u8 (F6 str e))],kd:= .own}) rfl (λ_ _=>rfl)
      (λe o s _ N i hi=>by rw[zaj.1 (zal N)] at hi;simp[SV.ids] at hi) (Lib.bytesWorld_below w el str) (L:=⟨w.heap.size,0,1,grownCap w str.size 0 el,false⟩) rfl (za0 _) (by show w.heap.size<_;rw[Lib.bytesWorld_size];omega) v0 (λh=>by cases h) (λ_=>rfl)
      (λj hj=>by
        simp only[zbY,za7] at hj ⊢;rw[World.cell?,Lib.bytesWorld_at_new]
        simp[q0,hj])
      (λj hj=>by
        simp only[zbY,za7] at hj ⊢;rw[World.frozen?,Lib.bytesWorld_at_new]
        simp[q0];omega)
      (λe o s H N=>by
        have H:e<str.size:=H;have ho:o=0:=by
         rcases o with _|o
         ·rfl
         ·simp at N
        subst ho;simp only[zbA,za1] at N;subst N;have:=Lib.bytesWorld_cell w el str e H;simp only[za7,zbY,zaY];rw[this];have hl:e<str.data.toList.length:=by rw[Array.length_toList];exact H
        simp only[SV.conc,F6,zaa hl,zdh,Option.getD_some])
     refine .inl ⟨_,_, ?_,⟨kk,λi hi=>aC (λe=>hi (e▸hid)), ?_⟩⟩
     ·simp only[execOp,Y,SV.conc,zdE,O0,zdD,zdF,addr,aA];simp
     ·intro i hi;simp only[SV.ids,zaj] at hi;subst hi;simp[VO,az]
    ·cases H
   ·cases H
  ·rename_i i e n N;obtain⟨Y,l1⟩:=bu h hG N;split at H
   ·rename_i el B hu hd hB;split at H
    ·rename_i B0 hk;split at H
     ·rename_i r hr;cases hb:(Nat.beq B.sz 1&&B.nn&&Nat.beq e 0) with
      |false=>rw[hb] at H;simp at H
      |true=>
       rw[hb] at H;simp only[zdr,za1] at H;subst H;simp only[za2] at hb;have P0:=zab hb.1.1;have z1:e+n<=B.n:=zdu hn;have q:=J.blk i B hB (by rw[hk];simp);have u0:=zab hb.2;have v1:=jq (β:=β) (id:=i) (e:=e) (len:=n) (q.nn hb.1.2) (.inr u0);have hl:=Yt hr;obtain⟨zs,Q0,w1⟩:=uX hr;have Y0:zs.length=n:=by rw[Q0] at hl;simpa using hl
       have hc:=run_loadCells_list (P:=P) w (addr β i e 0) (zs.map (Value.int .u8)) (λj v hv=>by
        rw[jr];rw[zaL] at hv;cases hj:zs[j]? with
        |none=>simp[hj] at hv
        |some z=>
         simp[hj] at hv;subst hv;have y1:j<n:=by
          rcases zah j n with h'|h'
          ·exact h'
          ·rw[zad (by omega)] at hj;cases hj
         have hg:=w1 j z hj;have:=q.val (e+j) (by omega) 0 (.val (.int .u8 z)) (by rw[hg];rfl);simp only[addr,q.sz,P0,SV.conc] at this ⊢;rw[show (β i).off+e*1+(0+j)=(β i).off+(e+j)*1+0 by omega]
         exact this)
       rw[zaB,Y0] at hc;have V0:=run_bytesToString (P:=P) w (addr β i e 0) n ((β i).cap - e) zs hc;refine Runs.value J ?_ rfl rfl (aW (by simp[SV.ids]));rw[v1] at Y;simp only[Y,convert,zdE,run_underlying hu,run_underlying hd,zdD,run_underlying B0,V0,SV.conc];rw[rY,Q0];rfl
     ·cases H
    ·cases H
   ·cases H
  ·cases H
 |makeFunc f first caps=>
  simp only[eff] at H;split at H
  ·rename_i as cs h1 h2;simp at H;subst H;obtain⟨Y,l1⟩:=gQ h hG h1;obtain⟨e2,l2⟩:=gQ h hG h2;have e3:first.map a.eval=(SV.concs β as).toArray:=by apply zaW;simp[Y]
   have e4:caps.map a.eval=(SV.concs β cs).toArray:=by apply zaW;simp[e2]
   refine Runs.value J (by simp[Instr.makeFunc,e3,e4,SV.conc]) rfl rfl ?_;intro i hi;simp only[SV.ids,za8] at hi;rcases hi with hi|hi
   ·obtain⟨s,N,hi⟩:=SV.mem_idss.1 hi;exact l1 s N i hi
   ·obtain⟨s,N,hi⟩:=SV.mem_idss.1 hi;exact l2 s N i hi
  ·cases H
 |slice t x lo hi mx=>
  cases mx with
  |some m=>simp[eff] at H
  |none=>
   simp only[eff] at H;split at H
   ·rename_i str N hu;obtain⟨Y,l1⟩:=bu h hG N;split at H
    ·rename_i b l r hb;cases hc:((lo.isSome==(lo.bind (ev A.tm G)).isSome)&&(hi.isSome==(hi.bind (ev A.tm G)).isSome)) with
     |false=>rw[hc] at H;simp at H
     |true=>
      rw[hc] at H;simp only[zdr,za1] at H;subst H;simp only[za2] at hc;have e2:=jW h hG hc.1;have e3:=jW h hG hc.2;obtain⟨k,_,_⟩:=Af (P:=P) (β:=β) hb hn false w;refine Runs.value J ?_ rfl rfl (aW (by simp[SV.ids]));simp only[Instr.sliceAt,Instr.slice,Y,SV.conc,zdE,run_underlying hu,zdD,zcE,Option.isSome_none,zbn,if_false,e2,e3,k,zdF]
    ·cases H
   ·rename_i id' e n el N hu;obtain⟨Y,l1⟩:=bu h hG N;split at H
    ·rename_i b l r B s hb hB a0
     have key:B.kd≠ .gone->(bif (lo.isSome==(lo.bind (ev A.tm G)).isSome)&&(hi.isSome==(hi.bind (ev A.tm G)).isSome)&&Nat.beq s B.sz then
      some ({need:=b&&decide (e+n<=B.n)&&(bif Nat.beq e 0||Nat.beq l 0 then true else decide (e+l<B.n)),out:= .slc id' (e+l) (r - l),rd:= [id']}:Eff) else none)=some E->Runs P W0 A.bl id E β w (execOp a.eval ⟨dst, .slice t x lo hi none,ty,pos,after,gd⟩):=by
      intro hg H;cases hc:((lo.isSome==(lo.bind (ev A.tm G)).isSome)&&(hi.isSome==(hi.bind (ev A.tm G)).isSome)&&Nat.beq s B.sz) with
      |false=>rw[hc] at H;simp at H
      |true=>
       rw[hc] at H;simp only[zdr,za1] at H;subst H;simp only[za2,zdt] at hc hn;obtain⟨⟨a1,A1⟩,M0⟩:=hn;have i0:=zab hc.2;have e2:=jW h hG hc.1.1;have e3:=jW h hG hc.1.2;have q:=J.blk id' B hB hg;have v0:=q.le;obtain⟨k,k1,k2⟩:=qb (P:=P) (β:=β) (cap:=(β id').cap - e) hb a1 (by omega) true w;refine Runs.value J ?_ rfl rfl l1;simp only[Instr.sliceAt,Instr.slice,Y,SV.conc,zdE,run_underlying hu,zdD,zcE,e2,e3,k,zdF,eF w a0];rw[show (β id').cap - e - l=(β id').cap - (e+l) by omega]
       congr 2
       cases x0:(β id').nil with
       |true=>
        simp only[zdr,zcE,ite_self]
       |false=>
        simp only[zdq,zb0];simp only[bS];by_cases L0:(β id').cap - e=l
        ·rw[if_pos L0]
         congr 2
         by_cases u0:e=0
         ·subst u0;have:(β id').cap=l:=by omega
          simp[this]
         ·by_cases K0:l=0
          ·subst K0;simp
          ·exfalso;rw[bS,bS] at M0;simp[u0,K0] at M0;omega
        ·rw[if_neg L0];have h3:(β id').cap≠e+l:=by omega
         congr 1
         by_cases y0:(β id').cap=e
         ·exfalso;omega
         ·simp only[y0,h3,decide_false,zdq,addr,Addr.add];split
          ·rename_i hz;rw[q.sz] at*
           rw[i0] at hz;simp only[zaG]
           congr 1
           omega
          ·congr 1
           rw[q.sz,i0,zaG];omega
     split at H
     ·cases H
     ·rename_i hk;exact key (λe=>hk e) H
    ·cases H
   ·cases H
 |fieldAddr t x i=>
  simp only[eff] at H;split at H
  ·rename_i id' e off f N hf;obtain⟨Y,l1⟩:=bu h hG N;obtain⟨fs,hu,C0⟩:=mw hf;split at H
   ·rename_i n a0;simp at H;subst H;refine Runs.value J ?_ rfl rfl l1;simp only[Instr.fieldAt,Y,SV.conc,zdE,run_underlying hu,zdD,C0,Instr.sureAddr,zdF,fieldPlace,eF w a0,Sem.run_ite];rw[if_neg (by omega)];simp[jr]
   ·cases H
  ·cases H
 |field t x i=>
  simp only[eff] at H;split at H
  ·rename_i cs f N hf;obtain⟨Y,l1⟩:=bu h hG N;obtain⟨fs,hu,C0⟩:=mw hf;obtain⟨s,hp,rfl⟩:=cJ H;obtain⟨k1,k2⟩:=fC (β:=β) w hp;refine Runs.value J ?_ rfl rfl ?_
   ·simp only[Instr.field,Y,SV.conc,zdE,run_underlying hu,zdD,C0,asAgg,zdF,k1]
   ·intro j hj;exact l1 j (by simp only[SV.ids];exact k2 j hj)
  ·cases H
 |indexAddr t x i=>
  simp only[eff] at H;split at H
  ·rename_i id' e off k ix N hi;obtain⟨Y,l1⟩:=bu h hG N;obtain⟨e2,l2⟩:=bu h hG hi;split at H
   ·rename_i n el hu;split at H
    ·rename_i s a0;simp at H;subst H;simp at hn;refine Runs.value J ?_ rfl rfl l1;simp only[Instr.indexAt,Y,e2,SV.conc,asIntOf,zdE,zdF,zdD,run_underlying hu,Instr.sureAddr,hn,and_self,if_true,eF w a0,jr]
    ·cases H
   ·cases H
  ·rename_i id' e n k ix N hi;obtain⟨Y,l1⟩:=bu h hG N;obtain⟨e2,l2⟩:=bu h hG hi;split at H
   ·rename_i el B hu hB;split at H
    ·cases H
    ·rename_i s a0 j1;cases hb:Nat.beq s B.sz with
     |false=>rw[hb] at H;simp at H
     |true=>
      rw[hb] at H;simp only[zdr,za1] at H;subst H;have i0:=zab hb;have q:=J.blk id' B hB j1;have n1:(0<=ix/\ix<n)/\(β id').nil=false/\((β id').cap≠e\/e=0):=by
       cases n0:(B.nn&&Nat.beq e 0) with
       |true=>
        simp only[n0,zdr,za2,zdt] at hn;simp only[za2] at n0;exact⟨hn,q.nn n0.1, .inr (zab n0.2)⟩
       |false=>
        simp only[n0,zdq,za2,zdt] at hn;have:=q.le;exact⟨hn.1,q.not_nil hn.2, .inl (by omega)⟩
      obtain⟨hn,x0,y0⟩:=n1;refine Runs.value J ?_ rfl rfl l1;rw[jq x0 y0] at Y;simp only[Instr.indexAt,Y,e2,SV.conc,asIntOf,zdE,zdF,zdD,run_underlying hu,hn,and_self,if_true,eF w a0,jr];have j0:addr β id' e (0+ix.toNat*s)=addr β id' (e+ix.toNat) 0:=by
       simp only[addr,q.sz,i0,zaG,za7,zaY,zbq]
      rw[j0]
    ·cases H
   ·cases H
  ·rename_i g k ix N hi;obtain⟨Y,l1⟩:=bu h hG N;obtain⟨e2,l2⟩:=bu h hG hi;split at H
   ·rename_i n el B hu hB;split at H
    ·rename_i s a0 hk;cases hb:(Nat.beq s B.sz&&B.nn) with
     |false=>rw[hb] at H;simp at H
     |true=>
      rw[hb] at H;simp only[zdr,za1] at H;subst H;simp only[za2] at hb;have i0:=zab hb.1;have q:=J.blk g B hB (by rw[hk];simp);have ga:=az6 J hB hk hb.2;simp only[za2,zdt] at hn;refine Runs.value J ?_ rfl rfl (λj hj=>by simp only[SV.ids,zaj] at hj;subst hj;rw[hB];simp);have j0:addr β g 0 (0+ix.toNat*s)=addr β g ix.toNat 0:=by
       simp only[addr,q.sz,i0,za7,zaY,zcD]
      simp only[Instr.indexAt,Y,e2,SV.conc,asIntOf,zdE,zdF,zdD,run_underlying hu,Instr.sureAddr,hn,and_self,if_true,eF w a0,<-ga,jr];rw[<-j0]
    ·cases H
   ·cases H
  ·cases H
 |index t x i=>
  simp only[eff] at H;split at H
  ·rename_i cs k ix N hi;obtain⟨Y,l1⟩:=bu h hG N;obtain⟨e2,l2⟩:=bu h hG hi;split at H
   ·rename_i n el hu;split at H
    ·rename_i a0;split at H
     ·rename_i T0;cases z0:Nat.beq cs.length n with
      |false=>rw[z0] at H;simp at H
      |true=>
       rw[z0] at H;simp only[zdr] at H;split at H
       ·rename_i v hv;simp at H;subst H;simp at hn;have e0:=zab z0;have H0:=DJ (P:=P) (el:=el) (cs:=cs) (i:=ix.toNat) T0 a0 (by omega) hv;obtain⟨k1,k2⟩:=fC (β:=β) w H0;refine Runs.value J ?_ rfl rfl (λj hj=>l1 j (by simp only[SV.ids];exact k2 j hj));simp only[Instr.index,Y,e2,SV.conc,asIntOf,zdE,zdF,zdD,run_underlying hu,hn,and_self,if_true,eF w a0,k1]
       ·cases H
     ·cases H
    ·rename_i s a0;split at H
     ·rename_i v hv;simp at H;subst H;simp at hn;obtain⟨k1,k2⟩:=fC (β:=β) w hv;refine Runs.value J ?_ rfl rfl (λj hj=>l1 j (by simp only[SV.ids];exact k2 j hj));simp only[Instr.index,Y,e2,SV.conc,asIntOf,zdE,zdF,zdD,run_underlying hu,hn,and_self,if_true,eF w a0,k1]
     ·cases H
    ·cases H
   ·cases H
  ·rename_i str k ix N hi;obtain⟨Y,l1⟩:=bu h hG N;obtain⟨e2,l2⟩:=bu h hG hi;split at H
   ·rename_i hu;simp at H;subst H;simp at hn;have hb:=yc hn.1 hn.2;refine Runs.value J ?_ rfl rfl (aW (by simp[SV.ids]));cases hc:(if 0<=ix then str[ix.toNat]? else none) with
    |none=>rw[hc] at hb;simp at hb
    |some b=>
     rw[hc] at hb;simp at hb;simp only[Instr.index,Y,e2,SV.conc,asIntOf,zdE,zdF,zdD,run_underlying hu,hc,hb]
   ·cases H
  ·cases H
 |lookup t m k ok=>
  simp only[eff] at H;split at H
  ·rename_i sm sk hm hk;obtain⟨Y,_⟩:=bu h hG hm;obtain⟨e2,_⟩:=bu h hG hk;obtain⟨i,B,_,_,_,hw,q1,_⟩:=lI H;obtain⟨r1,r2⟩:=Ah J H hn;exact Runs.value J (by rw[Y,e2];exact r1) hw q1 r2
  ·cases H
 |extract x i=>
  simp only[eff] at H;split at H
  ·rename_i vs N;obtain⟨Y,l1⟩:=bu h hG N;obtain⟨s,hp,rfl⟩:=cJ H;refine Runs.value J ?_ rfl rfl ?_
   ·have:(SV.concs β vs).toArray[i]? =some (s.conc β):=by simp[SV.concs_eq,hp]
    simp[Instr.extract,Y,SV.conc,this]
   ·intro j hj;exact l1 j (by simp only[SV.ids];exact SV.mem_idss.2 ⟨s,zal hp,hj⟩)
  ·cases H
 |call c=>
  simp only[eff] at H
  have key: ∀f args,target A.tm G c=some (f,args)->(match Γ f with
   |some k=>pY (k args)
   |none=>none)=some E->Runs P W0 A.bl id E β w (execOp a.eval ⟨dst, .call c,ty,pos,after,gd⟩):=by
   intro f args ht H;split at H
   ·rename_i k hk;obtain⟨n,s,N,rfl⟩:=ia H;obtain⟨r1,l1⟩:=nR h hG ht (hΓ.call f k hk) ty w;obtain⟨c1,c2⟩:=hΓ.ctr f k hk β w args n s J.below N hn;refine .inr (.inr ⟨f,_,r1, ?_⟩);refine Calls.mono c2 ?_;rintro e w' ⟨rfl,h1⟩;exact⟨β,rfl,⟨by simp only[VO];exact J.step h1,λ_ _=>rfl,aW c1⟩⟩
   ·cases H
  split at H
  ·rename_i b l0;split at H
   ·rename_i args U0;obtain⟨Y,l1⟩:=gQ h hG U0;have e3:c.args.map a.eval=(SV.concs β args).toArray:=by apply zaW;simp[Y]
    unfold ae2 at H;split at H
    ·split at H
     ·rename_i t x ht;obtain⟨s,N,rfl⟩:=cJ H;obtain⟨k1,k2⟩:=Ag (β:=β) N ty w;refine Runs.value' J ?_ rfl rfl (aW k2);have k3:(Builtin.len_ c.argTypes ty (SV.concs β [x]).toArray).run P w= .ok (s.conc β) w:=by
       rw[<-k1];simp only[Builtin.len_,ht,SV.concs];simp
      simp only[execOp,resolve,l0,zdE,zdF,zdD,invoke,builtin,e3,k3]
     ·cases H
    ·split at H
     ·rename_i x r;obtain⟨s,N,rfl⟩:=cJ H;obtain⟨k1,k2⟩:=pd (P:=P) (β:=β) x r s w N;refine Runs.value' J ?_ rfl rfl (by rcases k2 with rfl|k2;exact l1 _ (by simp);exact aW k2);simp only[execOp,resolve,l0,zdE,zdF,zdD,invoke,builtin,e3,Builtin.max_,SV.concs] at k1 ⊢;simp only[if_true] at k1;simp[k1]
     ·cases H
    ·split at H
     ·rename_i x r;obtain⟨s,N,rfl⟩:=cJ H;obtain⟨k1,k2⟩:=pd (P:=P) (β:=β) x r s w N;refine Runs.value' J ?_ rfl rfl (by rcases k2 with rfl|k2;exact l1 _ (by simp);exact aW k2);simp only[execOp,resolve,l0,zdE,zdF,zdD,invoke,builtin,e3,Builtin.min_,SV.concs] at k1 ⊢;simp only[zbn,if_false] at k1;simp[k1]
     ·cases H
    ·cases H
   ·cases H
  ·split at H
   ·rename_i f args ht;exact key f args ht H
   ·cases H
 |_=>simp[eff] at H
end
section
variable {P:Program} {W0:Base}
structure Tr (bl:Nat->Option Blk) (nx:Nat) (W:List Nat) (β:Nat->Loc) (bl':Nat->Option Blk) (β':Nat->Loc):Prop where
 keep: ∀i B,bl i=some B-> ∃B',bl' i=some B'/\B'.n=B.n/\(B'.sz=B.sz/\B'.nn=B.nn)/\(B'.kd=B.kd\/B'.kd= .gone)/\(i∉W->B'=B)
 same: ∀i,bl i≠none->β' i=β i
 new: ∀i,i<nx->bl i=none->bl' i=none
theorem Tr.refl (bl:zdL) (nx:Nat) (W:zdH) (β:zdI):Tr bl nx W β bl β:=⟨λi B h=>⟨B,h,rfl,⟨rfl,rfl⟩, .inl rfl,λ_=>rfl⟩,λ_ _=>rfl,λ_ _ h=>h⟩
variable {bl bl':zdL} {nx:Nat} {W:zdH} {β β':zdI}
theorem Tr.dom (h:Tr bl nx W β bl' β') {i:Nat} (hi:bl i≠none):bl' i≠none:=by
 cases H:bl i with
 |none=>exact absurd H hi
 |some B=>obtain⟨B',h1,_⟩:=h.keep i B H;rw[h1];simp
variable {b0 b1:zdL} {U:zdH} {β0 β1:zdI}
theorem Tr.trans {b2:zdL} {nx':Nat} {V:zdH} {β2:zdI} (h:Tr b0 nx W β0 b1 β1) (k:Tr b1 nx' V β1 b2 β2) (hn:nx<=nx') (hW: ∀i∈W,i∈U) (hV: ∀i∈V,i∈U):Tr b0 nx U β0 b2 β2:=by
 refine⟨λi B hB=> ?_,λi hi=>(k.same i (h.dom hi)).trans (h.same i hi),λi hi h0=>k.new i (by omega) (h.new i hi h0)⟩;obtain⟨J,h1,Y,H,a3,a4⟩:=h.keep i B hB;obtain⟨N,h2,c1,c2,c3,c4⟩:=k.keep i J h1;exact⟨N,h2,c1.trans Y,⟨c2.1.trans H.1,c2.2.trans H.2⟩,c3.elim (λc3=>by rw[c3];exact a3) .inr,λhi=>(c4 λhv=>hi (hV i hv)).trans (a4 λhw=>hi (hW i hw))⟩
theorem Tr.mono (h:Tr b0 nx W β0 b1 β1) (hW: ∀i∈W,i∈U):Tr b0 nx U β0 b1 β1:=
 ⟨λi B hB=>by
   obtain⟨H,h1,J,N,Y,a4⟩:=h.keep i B hB
   exact⟨H,h1,J,N,Y,λhi=>a4 λhw=>hi (hW i hw)⟩,h.same,h.new⟩
variable {s:SV}
theorem Live.tr (h:Tr bl nx W β bl' β') (H:Live bl s):Live bl' s/\s.conc β'=s.conc β:=
 ⟨λi hi=>h.dom (H i hi),SV.conc_congr s λi hi=>h.same i (H i hi)⟩
variable {id:Nat}
theorem gN (hid:bl id=none) (a0:nx<=id) (E:Eff) (hs: ∀i,bl i≠none->β' i=β i):Tr bl nx (wrI E) β (VO bl id E) β':=by
 refine⟨λi B hB=> ?_,hs,λi hi h0=> ?_⟩
 rotate_left
 ·have J:i≠id:=by omega
  have key:(match E.wr with
   |some (i,e,o,cs)=>match bl i with
    |some B=>upd bl i (B.put e o cs)
    |none=>bl
   |none=>bl) i=none:=by
   cases hw:E.wr with
   |none=>exact h0
   |some p=>
    obtain⟨j,e,o,cs⟩:=p;simp only[];cases Y:bl j with
    |none=>exact h0
    |some C=>
     simp only[];have H:i≠j:=λe=>by rw[e,Y] at h0;cases h0
     rw[ak H];exact h0
  unfold VO;cases hn:E.nw with
  |none=>exact key
  |some N=>exact(ak J).trans key
 have J:i≠id:=λe=>by rw[e,hid] at hB;cases hB
 have key: ∃B',(match E.wr with
  |some (i,e,o,cs)=>match bl i with
   |some B=>upd bl i (B.put e o cs)
   |none=>bl
  |none=>bl) i=some B'/\B'.n=B.n/\(B'.sz=B.sz/\B'.nn=B.nn)/\(B'.kd=B.kd\/B'.kd= .gone)/\(i∉wrI E->B'=B):=by
  cases hw:E.wr with
  |none=>exact⟨B,hB,rfl,⟨rfl,rfl⟩, .inl rfl,λ_=>rfl⟩
  |some p=>
   obtain⟨j,e,o,cs⟩:=p;simp only[];cases Y:bl j with
   |none=>exact⟨B,hB,rfl,⟨rfl,rfl⟩, .inl rfl,λ_=>rfl⟩
   |some C=>
    simp only[];by_cases H:i=j
    ·subst H;rw[hB] at Y;obtain rfl:B=C:=by simpa using Y
     exact⟨_,az _ _ _,rfl,⟨rfl,rfl⟩, .inl rfl,λh=>absurd (by simp[wrI,hw]) h⟩
    ·exact⟨B,by rw[ak H];exact hB,rfl,⟨rfl,rfl⟩, .inl rfl,λ_=>rfl⟩
 obtain⟨B',h1,h2⟩:=key;refine⟨B', ?_,h2⟩;unfold VO;cases hn:E.nw with
 |none=>exact h1
 |some N=>exact(ak J).trans h1
variable {A:AS} {t:Nat}
theorem ph {d:Nat} {v:TV}:(A.put d v).tm t=if t=d then v else A.tm t:=by
 by_cases h:t=d
 ·subst h;simp[AS.put]
 ·have:Nat.beq t d=false:=by
   cases hh:Nat.beq t d with
   |false=>rfl
   |true=>exact absurd (zab hh) h
  simp[AS.put,this,h]
theorem cE (a:Act) (d t:Nat) (v:Value) (H:d<a.tmps.size):(a.put (some d) v).tmps.getD t undef=if t=d then v else a.tmps.getD t undef:=by
 by_cases h:t=d
 ·subst h;simp[Act.put,H]
 ·simp[Act.put,h,zdb (Ne.symm h)]
variable {a:Act}
theorem FR.carry (h:FR β A a) (J:Tr A.bl nx W β bl' β'):FR β' {A with bl:=bl'} a where
 defers:=by
  obtain⟨h1,h2⟩:=h.defers;refine⟨h1.trans (zbH λp hp=> ?_),λp hp=>⟨λs H=>(Live.tr J ((h2 p hp).1 s H)).1,λN=>J.dom ((h2 p hp).2 N)⟩⟩;have e: ∀l,(∀s∈l,s∈p.2.1++p.2.2)->SV.concs β l=SV.concs β' l:=λl Y=>by
   rw[SV.concs_eq,SV.concs_eq];exact zbH λs H=>(Live.tr J ((h2 p hp).1 s (Y s H))).2.symm
  unfold NF;cases N:vA p with
  |true=>rw[zdr,zdr,J.same _ ((h2 p hp).2 N)]
  |false=>
  rw[zdq,zdq,e p.2.1 λs H=>zbI _ H,e p.2.2 λs H=>zb1 _ H]
 size:=h.size
 v t s H:=by
  obtain⟨h1,h2⟩:=h.v t s H;obtain⟨k1,k2⟩:=Live.tr J h2;exact⟨h1.trans k2.symm,k1⟩
 opt t u b s H:=by
  obtain⟨h1,h2⟩:=h.opt t u b s H;refine⟨λe=> ?_,h2⟩;obtain⟨h3,h4⟩:=h1 e;obtain⟨k1,k2⟩:=Live.tr J h4;exact⟨h3.trans k2.symm,k1⟩
 os:=h.os
variable {A':AS} {d:Option Tmp}
theorem FR.putD (h:FR β A a) (hl:Live A.bl s) (hp:putD A d (.v s)=some A'):FR β A' (a.put d (s.conc β))/\A'.bl=A.bl/\A'.nx=A.nx/\A'.nt=A.nt/\A'.wl=A.wl:=by
 cases d with
 |none=>simp[Sy.putD] at hp;subst hp;exact⟨h,rfl,rfl,rfl,rfl⟩
 |some d=>
  simp only[Sy.putD] at hp;cases hc:(Nat.blt d A.nt&& !A.ok d) with
  |false=>rw[hc] at hp;simp at hp
  |true=>
   rw[hc] at hp;simp only[zdr,za1] at hp;subst hp;simp only[za2,zap] at hc;have a0:d<A.nt:=by have:=hc.1;simpa [zb2] using this
   have N:d<a.tmps.size:=by rw[h.size];exact a0
   refine⟨⟨?_, ?_, ?_, ?_, ?_⟩,rfl,rfl,rfl,rfl⟩
   ·exact h.defers
   ·simp only[AS.put,Act.put,zde];exact h.size
   ·intro t Y J;rw[ph] at J;rw[cE a d t _ N];by_cases H:t=d
    ·rw[if_pos H] at J ⊢;obtain rfl:s=Y:=by simpa using J
     exact⟨rfl,hl⟩
    ·rw[if_neg H] at J ⊢;exact h.v t Y J
   ·intro t u b Y J;rw[ph] at J;by_cases H:t=d
    ·rw[if_pos H] at J;cases J
    ·rw[if_neg H] at J;have hk:=(h.os t u b Y J).2;have e0:u≠d:=λe=>by rw[e,hc.2] at hk;cases hk
     rw[cE a d t _ N,cE a d u _ N,if_neg H,if_neg e0];exact h.opt t u b Y J
   ·intro t u b Y J;rw[ph] at J;by_cases H:t=d
    ·rw[if_pos H] at J;cases J
    ·rw[if_neg H] at J;exact h.os t u b Y J
variable {b:Bool}
theorem FR.putG (h:FR β A a) (hp:putG A d t b s=some A') {v:Value}
 (hv:(a.tmps.getD t undef= .bool b->v=s.conc β/\Live A.bl s)/\(a.tmps.getD t undef≠ .bool b->v=undef)):FR β A' (a.put d v)/\A'.bl=A.bl/\A'.nx=A.nx/\A'.nt=A.nt/\A'.wl=A.wl:=by
 cases d with
 |none=>simp[Sy.putG] at hp;subst hp;exact⟨h,rfl,rfl,rfl,rfl⟩
 |some d=>
  simp only[Sy.putG] at hp;cases hc:(Nat.blt d A.nt&& !A.ok d&& !Nat.beq d t) with
  |false=>rw[hc] at hp;simp at hp
  |true=>
   rw[hc] at hp;simp only[zdr,za1] at hp;subst hp;simp only[za2,zap] at hc;have e0:d<A.nt:=by have:=hc.1.1;simpa [zb2] using this
   have N:d<a.tmps.size:=by rw[h.size];exact e0
   have a0:d≠t:=λe=>by have:=hc.2;rw[e] at this;simp at this
   refine⟨⟨?_, ?_, ?_, ?_, ?_⟩,rfl,rfl,rfl,rfl⟩
   ·exact h.defers
   ·simp only[AS.put,Act.put,zde];exact h.size
   ·intro x Y hx;have H:(A.put d (.opt t b s)).tm x= .v Y:=hx;rw[ph] at H;rw[cE a d x _ N];by_cases J:x=d
    ·rw[if_pos J] at H;cases H
    ·rw[if_neg J] at H ⊢;exact h.v x Y H
   ·intro x u b' Y hx;have H:(A.put d (.opt t b s)).tm x= .opt u b' Y:=hx;rw[ph] at H;by_cases J:x=d
    ·rw[if_pos J] at H;simp only[TV.opt.injEq] at H;obtain⟨rfl,rfl,rfl⟩:=H;rw[cE a d x _ N,cE a d t _ N,if_pos J,if_neg (Ne.symm a0)];exact⟨hv.1,hv.2⟩
    ·rw[if_neg J] at H;have hk:=(h.os x u b' Y H).2;have g0:u≠d:=λe=>by rw[e,hc.1.2] at hk;cases hk
     rw[cE a d x _ N,cE a d u _ N,if_neg J,if_neg g0];exact h.opt x u b' Y H
   ·intro x u b' Y hx;have H:(A.put d (.opt t b s)).tm x= .opt u b' Y:=hx;rw[ph] at H;by_cases J:x=d
    ·rw[if_pos J] at H;simp only[TV.opt.injEq] at H;obtain⟨rfl,rfl,rfl⟩:=H;subst J;exact⟨by simp,by simp⟩
    ·rw[if_neg J] at H;obtain⟨k1,k2⟩:=h.os x u b' Y H;refine⟨?_, ?_⟩
     ·show (bif Nat.beq x d then true else A.og x)=true;cases Nat.beq x d<;>simp[k1]
     ·show (bif Nat.beq u t then true else A.ok u)=true;cases Nat.beq u t<;>simp[k2]
variable {ops:zdO} {o:Oper}
theorem qn {j:Nat} (hg:o.guard=some (j,b)) (H:(ops.toList[j]?).bind (·.dst)=some t):
 Region.wanted o (yielded ops a.tmps)=true↔a.tmps.getD t undef= .bool b:=by
 have h1:(ops[j]?).bind (·.dst)=some t:=by simpa using H
 simp only[Region.wanted,hg,yielded,h1,zcF,zcG];cases J:a.tmps[t]? with
 |none=>simp[undef]
 |some v=>cases v<;>simp
theorem mO {Γ:zdP} (hΓ:GamOK P W0 Γ) (h:FR β A a) {w:World} (a0:BC W0 A.bl β w) {f:li}
 (i0:A.nx<=id) (H:step P Γ ops id o A=some (true,A',f)) {Q:zdN} {K:Act->World->Prop}
 (hK: ∀a' w' β',FR β' A' a'->BC W0 A'.bl β' w'->Tr A.bl A.nx f.2 β A'.bl β'->A'.nx=A.nx->A'.wl=A.wl->A'.nt=A.nt->K a' w'):
 if Region.wanted o (yielded ops a.tmps) then o.wpX P a w K Q else K (a.put o.dst undef) w:=by
 unfold step at H;cases hg:o.guard with
 |none=>
  rw[hg] at H;simp only[] at H;rw[if_pos (by simp[Region.wanted,hg])];split at H
  ·rename_i E hE;cases N:fresh A id with
   |false=>rw[N] at H;simp at H
   |true=>
    rw[N] at H;simp only[zdr] at H;have hid:A.bl id=none:=by
     unfold fresh at N;cases hb:A.bl id with
     |none=>rfl
     |some B=>rw[hb] at N;cases N
    split at H
    ·rename_i A1 hp;simp only[za1,zag] at H;obtain⟨hn,rfl,rfl⟩:=H;have k:=uY hΓ h a0 (G:= []) (λp hp=>by cases hp) hid o hE hn;refine Runs.next k o a K Q λw' β' g=> ?_
     have tr:=gN hid i0 E g.same;obtain⟨r1,Y,r3,r4,r5⟩:=FR.putD (h.carry tr) g.live hp;exact hK _ _ β' r1 (by rw[Y];exact g.bc) (by rw[Y];exact tr.mono λi hi=>by simp[aV,hi]) r3 r5 r4
    ·cases H
  ·cases H
 |some p=>
  obtain⟨j,b⟩:=p;rw[hg] at H;simp only[] at H;split at H
  ·rename_i t ht;split at H
   ·rename_i g E n0 hE;split at H
    ·rename_i hw l0;cases N:fresh A id with
     |false=>rw[N] at H;simp at H
     |true=>
      rw[N] at H;simp only[zdr] at H;have hid:A.bl id=none:=by
       unfold fresh at N;cases hb:A.bl id with
       |none=>rfl
       |some B=>rw[hb] at N;cases N
      split at H
      ·rename_i A1 hp;simp only[za1,zag] at H;obtain⟨hn,rfl,rfl⟩:=H;have j0:=p8 h 9 t b g n0;have g0:VO A.bl id E=A.bl:=by simp[VO,hw,l0]
       have o0:wrI E= []:=by simp[wrI,hw]
       by_cases J:a.tmps.getD t undef= .bool b
       ·rw[if_pos ((qn hg ht).2 J)];have e0:E.need=true:=by
         have:g=true:=j0.2 J;rw[this] at hn;unfold dC at hn;split at hn
         ·assumption
         ·simp at hn
        have k:=uY hΓ h a0 (p9 h 9 t b J) hid o hE e0;refine Runs.next k o a K Q λw' β' g=> ?_
        have tr:=gN hid i0 E g.same;have gl:=g.live;have gb:=g.bc;rw[g0] at tr gl gb;obtain⟨r1,Y,r3,r4,r5⟩:=FR.putG (h.carry tr) hp ⟨λ_=>⟨rfl,gl⟩,λe=>absurd J e⟩;exact hK _ _ β' r1 (by rw[Y];exact gb) (by rw[Y];exact tr.mono λi hi=>by simp[aV,hi]) r3 r5 r4
       ·rw[if_neg (λe=>J ((qn hg ht).1 e))];obtain⟨r1,Y,r3,r4,r5⟩:=FR.putG h hp (v:=undef) ⟨λe=>absurd e J,λ_=>rfl⟩;exact hK _ _ β r1 (by rw[Y];exact a0) (by rw[Y];exact Tr.refl _ _ _ _) r3 r5 r4
      ·cases H
    ·cases H
   ·cases H
  ·cases H
end
section
variable {P:Program} {W0:Base}
theorem gO {tm tm':Nat->TV} {G:List (Nat×Bool)}: ∀{l:List Operand},(∀x∈l,ev tm' G x=ev tm G x)->evs tm' G l=evs tm G l
 | [],_=>rfl
 |x::xs,h=>by simp only[evs,h x (by simp),gO (λy H=>h y (zan _ H))]
theorem jg {tm tm':Nat->TV} {G:List (Nat×Bool)}: ∀{l:List (Nat×Operand)},(∀p∈l,ev tm' G p.2=ev tm G p.2)->dJ tm' G l=dJ tm G l
 | [],_=>rfl
 |(i,x)::xs,h=>by simp only[dJ,h (i,x) (by simp),jg (λy H=>h y (zan _ H))]
variable {tm tm':Nat->TV} {G:List (Nat×Bool)}
theorem nW {c:Call} (h: ∀x∈c.operands,ev tm' G x=ev tm G x):target tm' G c=target tm G c:=by
 unfold target;cases H:c.callee with
 |value f=>
  have h1:ev tm' G f=ev tm G f:=h f (by simp[Call.operands,H]);have h2:evs tm' G c.args.toList=evs tm G c.args.toList:=gO λx J=>h x (by simp[Call.operands,H];right;simpa using J);simp only[h1,h2]
 |_=>rfl
variable {hq:Bool} {Γ:zdP} {bl:zdL} {id:Nat} {op:Op}
theorem Gw (h: ∀x∈op.operands,∀G,ev tm' G x=ev tm G x):
 eff P Γ hq tm' bl G id op=eff P Γ hq tm bl G id op:=by
 cases op with
 |pick c x y=>
  have h1:=h c (by simp[Op.operands]);have h2:=h x (by simp[Op.operands]);have h3:=h y (by simp[Op.operands]);simp only[eff,h1,h2,h3]
 |build t parts=>
  have h1:dJ tm' G parts.toList=dJ tm G parts.toList:=jg λp hp=>h p.2 (by simp[Op.operands];exact⟨p.1,by simpa using hp⟩) G;simp only[eff,h1]
 |buildSlice t n parts=>
  have h1:dJ tm' G parts.toList=dJ tm G parts.toList:=jg λp hp=>h p.2 (by simp[Op.operands];exact⟨p.1,by simpa using hp⟩) G;simp only[eff,h1]
 |makeFunc f a c=>
  have h1:evs tm' G a.toList=evs tm G a.toList:=gO λx H=>h x (by simp[Op.operands];left;simpa using H) G;have h2:evs tm' G c.toList=evs tm G c.toList:=gO λx H=>h x (by simp[Op.operands];right;simpa using H) G;simp only[eff,h1,h2]
 |slice t x lo hi J=>
  have h1:=h x (by simp[Op.operands]);have h2:lo.bind (ev tm' G)=lo.bind (ev tm G):=by
   cases lo with
   |none=>rfl
   |some l=>exact h l (by simp[Op.operands]) G
  have h3:hi.bind (ev tm' G)=hi.bind (ev tm G):=by
   cases hi with
   |none=>rfl
   |some l=>exact h l (by simp[Op.operands]) G
  cases J<;>simp only[eff,h1,h2,h3]
 |call c=>
  have h1:target tm' G c=target tm G c:=nW λx H=>h x H G;have h2:evs tm' G c.args.toList=evs tm G c.args.toList:=gO λx H=>h x (by simp[Op.operands,Call.operands];right;simpa using H) G;simp only[eff,h1,h2]
 |move x=>simp only[eff,h x (by simp[Op.operands])]
 |assign x=>simp only[eff,h x (by simp[Op.operands])]
 |box t x=>simp only[eff,h x (by simp[Op.operands])]
 |load t x=>simp only[eff,h x (by simp[Op.operands])]
 |store t x y=>simp only[eff,h x (by simp[Op.operands]),h y (by simp[Op.operands])]
 |nilCheck x=>simp only[eff,h x (by simp[Op.operands])]
 |binOp o t x y u=>simp only[eff,h x (by simp[Op.operands]),h y (by simp[Op.operands])]
 |unOp o t x=>simp only[eff,h x (by simp[Op.operands])]
 |convert s d x=>simp only[eff,h x (by simp[Op.operands])]
 |fieldAddr t x i=>simp only[eff,h x (by simp[Op.operands])]
 |field t x i=>simp only[eff,h x (by simp[Op.operands])]
 |indexAddr t x y=>simp only[eff,h x (by simp[Op.operands]),h y (by simp[Op.operands])]
 |index t x y=>simp only[eff,h x (by simp[Op.operands]),h y (by simp[Op.operands])]
 |extract x i=>simp only[eff,h x (by simp[Op.operands])]
 |lookup t m k ok=>simp only[eff,h m (by simp[Op.operands]),h k (by simp[Op.operands])]
 |_=>simp only[eff]
theorem bG {α:Type} {c:Bool} {y:Option α} {e:α} (h:(bif c then y else none)=some e):y=some e:=by
 cases c
 ·cases h
 ·exact h
variable {bl':zdL} {t:TypeId} {x:SV} {E:Eff}
theorem aBY (H:rH P bl t x=some E) (h: ∀i,i∈E.rd->bl' i=bl i):rH P bl' t x=some E:=by
 unfold rH at H ⊢;split at H
 ·rename_i i e o;have Y: ∀B,bl i=some B->i∈E.rd:=by
   intro B hB;rw[hB] at H;simp only[] at H
   have: ∀(x:Option Eff),(match xW P t,szT P t with
    |some false,_=>match (B.get e)[o]? with
     |some s=>some ({need:=decide (e<B.n),out:=s,rd:= [i]}:Eff)
     |none=>none
    |some true,some n=>bif Nat.beq (((B.get e).drop o).take n).length n then some {need:=decide (e<B.n),out:= .agg (((B.get e).drop o).take n),rd:= [i]} else none
    |_,_=>none)=some E->i∈E.rd:=by
    intro x J;split at J
    ·split at J
     ·simp at J;subst J;simp
     ·cases J
    ·rename_i n _ _;cases N:Nat.beq (((B.get e).drop o).take n).length n with
     |false=>rw[N] at J;simp at J
     |true=>rw[N] at J;simp only[zdr,za1] at J;subst J;simp
    ·cases J
   split at H
   ·cases H
   ·exact this none H
  cases hB:bl i with
  |none=>rw[hB] at H;cases H
  |some B=>rw[h i (Y B hB)];exact H
 ·cases H
theorem aBZ (H:rH P bl t x=some E): ∃i e o,x= .ptr i e o/\i∈E.rd:=by
 unfold rH at H;split at H
 ·rename_i i e o;refine⟨i,e,o,rfl, ?_⟩;split at H
  ·split at H
   ·cases H
   ·split at H
    ·split at H
     ·simp only[za1] at H;subst H;simp
     ·cases H
    ·have H:=bG H;simp only[za1] at H;subst H;simp
    ·cases H
  ·cases H
 ·cases H
variable {i:Nat}
theorem aDM {s:SV} {e o:Nat} (h:gpS bl s= .ptr i e o) (J:bl' i=bl i):gpS bl' s= .ptr i e o:=by
 unfold gpS at h ⊢;split at h
 ·rename_i g;split at h
  ·rename_i B hB;split at h
   ·rename_i N;cases H:B.nn with
    |false=>rw[H] at h;cases h
    |true=>
     rw[H] at h;cases h;simp only[J,hB,N,H,zdr]
   ·cases h
  ·cases h
 ·exact h
theorem wv (H:eff P Γ hq tm bl G id op=some E)
 (h: ∀i,i∈E.rd\/i∈wrI E->bl' i=bl i):eff P Γ hq tm bl' G id op=some E:=by
 cases op with
 |lookup t m k ok=>
  simp only[eff] at H ⊢;split at H
  ·rename_i sm sk hm hk;obtain⟨i,B,_,_,J,_,_,N⟩:=lI H;exact N bl' (h i (.inl (by rw[J];simp)))
  ·cases H
 |load t x=>
  simp only[eff] at H ⊢;split at H
  ·rename_i s Y;obtain⟨j,e,o,hx,J⟩:=aBZ H;have N:=h j (.inl J);have hg:=aDM hx N;rw[hx] at H;rw[hg];exact aBY H λi hi=>h i (.inl hi)
  ·cases H
 |store t x y=>
  simp only[eff] at H ⊢;split at H
  ·rename_i s v Y hv;unfold o9 at H ⊢;split at H
   ·rename_i i e o;have J:i∈wrI E:=by
     split at H
     ·rename_i B hB;split at H
      ·split at H
       ·rename_i n a0;cases N:(Nat.beq v.cells.length n&&v.cells.all SV.one&&Nat.ble (o+v.cells.length) B.sz) with
        |false=>rw[N] at H;simp at H
        |true=>rw[N] at H;simp only[zdr,za1] at H;subst H;simp[wrI]
       ·cases H
      ·cases H
     ·cases H
    simp only[h i (.inr J)];exact H
   ·cases H
  ·cases H
 |convert src dst x=>
  simp only[eff] at H ⊢;split at H
  ·exact H
  ·exact H
  ·rename_i i e n Y;have J:i∈E.rd:=by
    split at H
    ·rename_i el B _ _ hB;split at H
     ·split at H
      ·cases N:(Nat.beq B.sz 1&&B.nn&&Nat.beq e 0) with
       |false=>rw[N] at H;simp at H
       |true=>rw[N] at H;simp only[zdr,za1] at H;subst H;simp
      ·cases H
     ·cases H
    ·cases H
   simp only[h i (.inl J)];exact H
  ·cases H
 |indexAddr t x y=>
  simp only[eff] at H ⊢;split at H
  ·exact H
  ·rename_i i e n k ix Y hv;have J:i∈E.rd:=by
    split at H
    ·rename_i el B _ hB;split at H
     ·cases H
     ·rename_i s _ _;cases N:Nat.beq s B.sz with
      |false=>rw[N] at H;simp at H
      |true=>rw[N] at H;simp only[zdr,za1] at H;subst H;simp
     ·cases H
    ·cases H
   simp only[h i (.inl J)];exact H
  ·rename_i g k ix Y hv;have J:g∈E.rd:=by
    split at H
    ·split at H
     ·have H:=bG H;simp only[za1] at H;subst H;simp
     ·cases H
    ·cases H
   simp only[h g (.inl J)];exact H
  ·cases H
 |call c=>
  simp only[eff] at H ⊢;split at H
  ·split at H
   ·rename_i args _;exact H
   ·cases H
  ·exact H
 |slice t x lo hi mx=>
  cases mx with
  |some m=>simp[eff] at H
  |none=>
   simp only[eff] at H ⊢;split at H
   ·exact H
   ·rename_i i e n el Y hu;have J:i∈E.rd:=by
     split at H
     ·rename_i b l r B s _ hB _;split at H
      ·cases H
      ·have H:=bG H;simp only[za1] at H;subst H;simp
     ·cases H
    simp only[h i (.inl J)];exact H
   ·cases H
 |_=>exact H
structure Dl where
 d:Option Nat
 tv:TV
 key:Option Nat
 E:Eff
def dI (d:Option Nat) (v:TV) (tm:Nat->TV):Nat->TV:=λt=>match d with
 |some d=>bif Nat.beq t d then v else tm t
 |none=>tm t
def arz (d:Option Nat) (f:zdQ):zdQ:=λt=>match d with
 |some d=>bif Nat.beq t d then true else f t
 |none=>f t
theorem dK (v:TV) (tm:Nat->TV):dI none v tm=tm:=rfl
theorem di (d:Nat) (v:TV) (tm:Nat->TV):dI (some d) v tm=λt=>bif Nat.beq t d then v else tm t:=rfl
theorem fD (f:zdQ):arz none f=f:=rfl
theorem bZ (d:Nat) (f:zdQ):arz (some d) f=λt=>(Nat.beq t d||f t):=by
 funext t;simp only[arz];cases Nat.beq t d<;>rfl
variable {d:Option Nat} {v:TV}
theorem lJ {t:Nat} (h:d≠some t):dI d v tm t=tm t:=by
 cases d with
 |none=>rfl
 |some x=>
  have:Nat.beq t x=false:=by
   cases hh:Nat.beq t x with
   |false=>rfl
   |true=>exact absurd (congrArg some (zab hh).symm) h
  simp[dI,this]
def app (D:Dl) (id:Nat) (A:AS):AS:=
 {A with tm:=dI D.d D.tv A.tm,bl:=VO A.bl id D.E,og:=arz (D.key.bind λ_=>D.d) A.og,ok:=arz (D.d.bind λ_=>D.key) A.ok}
def Src (P:Program) (Γ:zdP) (ops:zdO) (id:Nat) (o:Oper) (A:AS) (D:Dl):Prop:=
 match o.guard with
 |none=>D.key=none/\D.tv= .v D.E.out/\D.E.need=true/\eff P Γ A.hq A.tm A.bl [] id o.op=some D.E
 |some (j,b)=> ∃t g,(ops.toList[j]?).bind (·.dst)=some t/\D.key=some t/\kO A.tm 9 t b=some g/\eff P Γ A.hq A.tm A.bl (Xw A.tm 9 t b) id o.op=some D.E/\D.E.wr=none/\D.E.nw=none/\dC g D.E.need=true/\D.tv= .opt t b D.E.out
structure Stp (P:Program) (Γ:FuncId->Option Ctr) (ops:Array Oper) (id:Nat) (o:Oper) (A:AS) (D:Dl):Prop where
 d:D.d=o.dst
 fresh:A.bl id=none
 put: ∀d,o.dst=some d->d<A.nt/\A.ok d=false/\D.key≠some d
 src:Src P Γ ops id o A D
variable {A:AS}
theorem Wi:fresh A id=true↔A.bl id=none:=by
 unfold fresh;cases A.bl id<;>simp
variable {ops:zdO} {o:Oper}
theorem VV {A':AS} {f:li}:
 step P Γ ops id o A=some (true,A',f)↔ ∃D,Stp P Γ ops id o A D/\A'=app D id A/\f=aV id D.E:=by
 constructor
 ·intro h;unfold step at h;cases hg:o.guard with
  |none=>
   rw[hg] at h;simp only[] at h;split at h
   ·rename_i E hE;cases Y:Sy.fresh A id with
    |false=>rw[Y] at h;simp at h
    |true=>
     rw[Y] at h;simp only[zdr] at h;split at h
     ·rename_i A1 hp;simp only[za1,zag] at h;obtain⟨hn,rfl,rfl⟩:=h;refine⟨⟨o.dst, .v E.out,none,E⟩,⟨rfl,Wi.1 Y, ?_,by simp only[Src,hg];exact⟨trivial,trivial,hn,hE⟩⟩, ?_,rfl⟩
      ·intro d J;rw[J] at hp;simp only[Sy.putD] at hp;cases N:(Nat.blt d A.nt&& !A.ok d) with
       |false=>rw[N] at hp;simp at hp
       |true=>
        simp only[za2,zap] at N;exact⟨by have:=N.1;simpa [zb2] using this,N.2,by simp⟩
      ·cases J:o.dst with
       |none=>rw[J] at hp;simp[Sy.putD] at hp;subst hp;rfl
       |some d=>
        rw[J] at hp;simp only[Sy.putD] at hp;cases N:(Nat.blt d A.nt&& !A.ok d) with
        |false=>rw[N] at hp;simp at hp
        |true=>rw[N] at hp;simp only[zdr,za1] at hp;subst hp;rfl
     ·cases h
   ·cases h
  |some p=>
   obtain⟨j,b⟩:=p;rw[hg] at h;simp only[] at h;split at h
   ·rename_i t ht;split at h
    ·rename_i g E g0 hE;split at h
     ·rename_i hw a0;cases Y:Sy.fresh A id with
      |false=>rw[Y] at h;simp at h
      |true=>
       rw[Y] at h;simp only[zdr] at h;split at h
       ·rename_i A1 hp;simp only[za1,zag] at h;obtain⟨hn,rfl,rfl⟩:=h;have H:VO A.bl id E=A.bl:=by simp[VO,hw,a0]
        refine⟨⟨o.dst, .opt t b E.out,some t,E⟩,⟨rfl,Wi.1 Y, ?_,by simp only[Src,hg];exact⟨t,g,ht,rfl,g0,hE,hw,a0,hn,rfl⟩⟩, ?_,rfl⟩
        ·intro d J;rw[J] at hp;simp only[Sy.putG] at hp;cases N:(Nat.blt d A.nt&& !A.ok d&& !Nat.beq d t) with
         |false=>rw[N] at hp;simp at hp
         |true=>
          simp only[za2,zap] at N;refine⟨by have:=N.1.1;simpa [zb2] using this,N.1.2,λe=> ?_⟩;simp only[za1] at e;have:=N.2;rw[e] at this;simp at this
        ·cases J:o.dst with
         |none=>rw[J] at hp;simp[Sy.putG] at hp;subst hp;simp[app,dK,di,fD,bZ,H]
         |some d=>
          rw[J] at hp;simp only[Sy.putG] at hp;cases N:(Nat.blt d A.nt&& !A.ok d&& !Nat.beq d t) with
          |false=>rw[N] at hp;simp at hp
          |true=>rw[N] at hp;simp at hp;subst hp;simp[app,dK,di,fD,bZ,H,AS.put]
       ·cases h
     ·cases h
    ·cases h
   ·cases h
 ·rintro⟨D,hs,rfl,rfl⟩;have Y:=Wi.2 hs.fresh;have src:=hs.src;unfold Src at src;unfold step;cases hg:o.guard with
  |none=>
   rw[hg] at src;obtain⟨h1,h2,h3,h4⟩:=src;simp only[h4,Y,zdr];cases J:o.dst with
   |none=>
    simp only[Sy.putD];simp[app,dK,di,fD,bZ,hs.d,J,h1,h3]
   |some d=>
    obtain⟨p1,p2,p3⟩:=hs.put d J;have hb:Nat.blt d A.nt=true:=by simpa [zb2] using p1
    simp[Sy.putD,hb,p2,app,dK,di,fD,bZ,hs.d,J,h1,h2,h3,AS.put]
  |some p=>
   obtain⟨j,b⟩:=p;rw[hg] at src;obtain⟨t,g,h1,h2,h3,h4,h5,h6,h7,h8⟩:=src;have H:VO A.bl id D.E=A.bl:=by simp[VO,h5,h6]
   simp only[h1,h3,h4,h5,h6,Y,zdr];cases J:o.dst with
   |none=>
    simp only[Sy.putG];simp[app,dK,di,fD,bZ,hs.d,J,h2,h7,H]
   |some d=>
    obtain⟨p1,p2,p3⟩:=hs.put d J;have hb:Nat.blt d A.nt=true:=by simpa [zb2] using p1
    have e0:Nat.beq d t=false:=by rw[bS];simp;intro e;exact p3 (by rw[h2,e])
    simp[Sy.putG,hb,p2,e0,app,dK,di,fD,bZ,hs.d,J,h2,h7,h8,AS.put,H]
def OS (A:AS):Prop:= ∀t u b s,A.tm t= .opt u b s->A.og t=true/\A.ok u=true
theorem jt {A:AS} (H:OS A) {d:Option Nat} (Y: ∀x,d=some x->A.ok x=false) {v:TV}: ∀(k t:Nat) (b:Bool),d≠some t->kO (dI d v A.tm) k t b=kO A.tm k t b
 |0,t,b,_=>rfl
 |k+1,t,b,ht=>by
  have h1:dI d v A.tm t=A.tm t:=lJ ht;simp only[kO,h1];cases hx:A.tm t with
  |opt J N s=>
   have hk:=(H t J N s hx).2;have:=jt H Y (v:=v) k J N (λe=>by have:=Y J e;rw[hk] at this;cases this);cases s with
   |val x=>cases x<;>first|rfl|simp only[this]
   |_=>rfl
  |v s=>
   cases s with
   |val x=>cases x<;>rfl
   |_=>rfl
  |dead=>rfl
theorem ju {A:AS} (H:OS A) {d:Option Nat} (Y: ∀x,d=some x->A.ok x=false) {v:TV}: ∀(k t:Nat) (b:Bool),d≠some t->Xw (dI d v A.tm) k t b=Xw A.tm k t b
 |0,t,b,_=>rfl
 |k+1,t,b,ht=>by
  have h1:dI d v A.tm t=A.tm t:=lJ ht;simp only[Xw,h1];cases hx:A.tm t with
  |opt J N s=>
   have hk:=(H t J N s hx).2;have:=ju H Y (v:=v) k J N (λe=>by have:=Y J e;rw[hk] at this;cases this);simp only[this]
  |_=>rfl
theorem Ai {x:Operand} (h: ∀t,x= .tmp t->d≠some t) (G:List (Nat×Bool)):ev (dI d v tm) G x=ev tm G x:=by
 cases x with
 |tmp t=>
  have H:=h t rfl;have h1:dI d v tm t=tm t:=lJ H;simp only[ev,h1]
 |_=>rfl
theorem jX (h1:i∉wrI E) (h2:i∉nwI id E):VO bl id E i=bl i:=by
 unfold VO
 have key:(match E.wr with
  |some (i,e,o,cs)=>match bl i with
   |some B=>upd bl i (B.put e o cs)
   |none=>bl
  |none=>bl) i=bl i:=by
  cases hw:E.wr with
  |none=>rfl
  |some p=>
   obtain⟨j,e,o,cs⟩:=p;have J:i≠j:=λe=>h1 (by simp[wrI,hw,e]);simp only[];cases bl j with
   |none=>rfl
   |some B=>exact ak J
 cases Y:E.nw with
 |none=>exact key
 |some N=>
  have H:i≠id:=λe=>h2 (by simp[nwI,Y,e]);exact(ak H).trans key
theorem jw {x y:zdH} (h:jT x y=false) (H:i∈x):i∉y:=by
 intro J;have:jT x y=true:=by
  unfold jT;simp only[zaP];exact⟨i,H,i,J,by simp⟩
 rw[h] at this;cases this
variable {idx idi:Nat} {ox oi:Oper} {Dx Di:Dl}
theorem Stp.over (Y:OS A) (hx:Stp P Γ ops idx ox A Dx)
 (a0: ∀d,ox.dst=some d->d∉oi.looksAt ops) (j0:idx≠idi)
 (N: ∀i,(i∈Di.E.rd\/i∈wrI Di.E)->i∉wrI Dx.E/\i∉nwI idx Dx.E):
 (Src P Γ ops idi oi (app Dx idx A) Di↔Src P Γ ops idi oi A Di):=by
 have hd: ∀x,Dx.d=some x->A.ok x=false:=λx e=>(hx.put x (by rw[<-hx.d,e])).2.1
 have g0: ∀x∈oi.op.operands,∀G,ev (dI Dx.d Dx.tv A.tm) G x=ev A.tm G x:=λx i0 G=>Ai (λt e he=>by
  subst e
  exact a0 t (by rw[<-hx.d,he]) (zbI _ (zcH.2 ⟨.tmp t,by simpa using i0,rfl⟩))) G
 have e0: ∀i,(i∈Di.E.rd\/i∈wrI Di.E)->VO A.bl idx Dx.E i=A.bl i:=λi hi=>jX (N i hi).1 (N i hi).2;have J: ∀G,eff P Γ (app Dx idx A).hq (app Dx idx A).tm (app Dx idx A).bl G idi oi.op=some Di.E↔eff P Γ A.hq A.tm A.bl G idi oi.op=some Di.E:=by
  intro G;show eff P Γ A.hq (dI Dx.d Dx.tv A.tm) (VO A.bl idx Dx.E) G idi oi.op=some Di.E↔_;rw[Gw g0];exact⟨λh=>wv h λi hi=>(e0 i hi).symm,λh=>wv h λi hi=>e0 i hi⟩
 unfold Src;cases hg:oi.guard with
 |none=>simp only[J]
 |some p=>
  obtain⟨j,b⟩:=p;have H: ∀t,(ops.toList[j]?).bind (·.dst)=some t->Dx.d≠some t:=λt ht he=>by
   refine a0 t (by rw[<-hx.d,he]) (zb1 _ ?_);rw[hg];simp at ht ⊢;exact ht
  constructor
  ·rintro⟨t,g,h1,h2,h3,h4,h5⟩;refine⟨t,g,h1,h2, ?_, ?_,h5⟩
   ·rw[<-jt Y hd 9 t b (H t h1)];exact h3
   ·have:=(J _).1 h4;rw[show Xw (app Dx idx A).tm 9 t b=Xw A.tm 9 t b from ju Y hd 9 t b (H t h1)] at this;exact this
  ·rintro⟨t,g,h1,h2,h3,h4,h5⟩;refine⟨t,g,h1,h2, ?_, ?_,h5⟩
   ·show kO (dI Dx.d Dx.tv A.tm) 9 t b=_;rw[jt Y hd 9 t b (H t h1)];exact h3
   ·rw[show Xw (app Dx idx A).tm 9 t b=Xw A.tm 9 t b from ju Y hd 9 t b (H t h1)];exact(J _).2 h4
def U (p:Option (Nat×(Option Blk->Option Blk))) (bl:zdL):zdL:=λi=>match p with
 |some (j,F)=>if i=j then F (bl i) else bl i
 |none=>bl i
theorem ww {p q:Option (Nat×(Option Blk->Option Blk))} (h: ∀j F k H,p=some (j,F)->q=some (k,H)->j≠k) (bl:zdL):U p (U q bl)=U q (U p bl):=by
 funext i
 cases p with
 |none=>rfl
 |some a=>
  cases q with
  |none=>rfl
  |some b=>
   obtain⟨j,F⟩:=a;obtain⟨k,H⟩:=b;have J:=h j F k H rfl rfl;simp only[U];by_cases h1:i=j
   ·have h2:i≠k:=λe=>J (h1.symm.trans e);simp[h1,h2,J]
   ·simp[h1]
def wrU (E:Eff):Option (Nat×(Option Blk->Option Blk)):=match E.wr with
 |some (i,e,o,cs)=>some (i,λb=>b.map λB=>B.put e o cs)
 |none=>none
def nwU (id:Nat) (E:Eff):Option (Nat×(Option Blk->Option Blk)):=match E.nw with
 |some B=>some (id,λ_=>some B)
 |none=>none
theorem yf (bl:zdL) (id:Nat) (E:Eff):VO bl id E=U (nwU id E) (U (wrU E) bl):=by
 have key:(match E.wr with
  |some (i,e,o,cs)=>match bl i with
   |some B=>upd bl i (B.put e o cs)
   |none=>bl
  |none=>bl)=U (wrU E) bl:=by
  funext i
  cases Y:E.wr with
  |none=>simp[wrU,Y,U]
  |some p=>
   obtain⟨j,e,o,cs⟩:=p;simp only[wrU,Y,U];by_cases H:i=j
   ·subst H;rw[if_pos rfl];cases J:bl i with
    |none=>simp[J]
    |some B=>simp[az]
   ·rw[if_neg H];cases J:bl j with
    |none=>rfl
    |some B=>exact ak H
 have e1:VO bl id E=match E.nw with
  |some B=>upd (U (wrU E) bl) id B
  |none=>U (wrU E) bl:=by
  rw[<-key];rfl
 rw[e1];cases N:E.nw with
 |none=>simp only[nwU,N];rfl
 |some B=>
  simp only[nwU,N]
  funext i
  simp only[U];by_cases h:i=id
  ·subst h;rw[az];simp
  ·rw[ak h,if_neg h];rfl
variable {j:Nat} {F:Option Blk->Option Blk}
theorem qS (h:wrU E=some (j,F)):j∈wrI E:=by
 unfold wrU at h;cases H:E.wr with
 |none=>simp[H] at h
 |some p=>obtain⟨i,e,o,cs⟩:=p;simp[H] at h;simp[wrI,H,h.1]
theorem nX (h:nwU id E=some (j,F)):j=id:=by
 unfold nwU at h;cases H:E.nw with
 |none=>simp[H] at h
 |some p=>simp[H] at h;exact h.1.symm
theorem AS.ext': ∀(X Y:AS),X.tm=Y.tm->X.bl=Y.bl->X.nx=Y.nx->X.nt=Y.nt->X.wl=Y.wl->X.og=Y.og->X.ok=Y.ok->X.df=Y.df->X.lit=Y.lit->X.hq=Y.hq->X.sd=Y.sd->X=Y
 |⟨_,_,_,_,_,_,_,_,_,_,_⟩,⟨_,_,_,_,_,_,_,_,_,_,_⟩,rfl,rfl,rfl,rfl,rfl,rfl,rfl,rfl,rfl,rfl,rfl=>rfl
theorem Gx (hd: ∀d,Dx.d=some d->Di.d≠some d) (N:idx≠idi)
 (hw: ∀i∈wrI Dx.E,i∉wrI Di.E/\i≠idi) (e0: ∀i∈wrI Di.E,i≠idx):app Di idi (app Dx idx A)=app Dx idx (app Di idi A):=by
 have a0:dI Di.d Di.tv (dI Dx.d Dx.tv A.tm)=dI Dx.d Dx.tv (dI Di.d Di.tv A.tm):=by
  funext t
  cases h1:Dx.d with
  |none=>simp only[dK]
  |some d=>
   cases h2:Di.d with
   |none=>simp only[dK]
   |some e=>
    have N:d≠e:=λh=>hd d h1 (by rw[h2,h]);simp only[di];by_cases h3:t=d
    ·subst h3;have:Nat.beq t e=false:=by rw[bS];simpa using N
     simp[this]
    ·have:Nat.beq t d=false:=by rw[bS];simpa using h3
     simp[this]
 have J: ∀(a b:Option Nat) (f:zdQ),arz a (arz b f)=arz b (arz a f):=by
  intro a b f;cases a<;>cases b<;>simp only[fD,bZ]
  funext t
  rw[<-Bool.or_assoc,<-Bool.or_assoc]
  congr 1
  exact Bool.or_comm _ _
 have Y:VO (VO A.bl idx Dx.E) idi Di.E=VO (VO A.bl idi Di.E) idx Dx.E:=by
  simp only[yf];rw[ww (p:=wrU Di.E) (q:=nwU idx Dx.E) (λj F k H h1 h2 e=>e0 j (qS h1) (by rw[e];exact nX h2))];rw[ww (p:=wrU Di.E) (q:=wrU Dx.E) (λj F k H h1 h2 e=>(hw k (qS h2)).1 (by rw[<-e];exact qS h1))];rw[ww (p:=nwU idi Di.E) (q:=nwU idx Dx.E) (λj F k H h1 h2 e=>N (by rw[<-nX h2,<-e];exact nX h1))];rw[ww (p:=nwU idi Di.E) (q:=wrU Dx.E) (λj F k H h1 h2 e=>(hw k (qS h2)).2 (by rw[<-e];exact nX h1))]
 refine AS.ext' _ _ a0 Y rfl rfl rfl ?_ ?_ rfl rfl rfl rfl
 ·exact J _ _ _
 ·exact J _ _ _
theorem OS.app (h:OS A) {D:Dl} (hs:Stp P Γ ops id o A D):OS (app D id A):=by
 intro t u b s ht;have J:dI D.d D.tv A.tm t= .opt u b s:=ht;have N: ∀(d:Option Nat) (f:zdQ) (x:Nat),f x=true->arz d f x=true:=by
  intro d f x hx;cases d with
  |none=>exact hx
  |some d=>rw[bZ];simp[hx]
 by_cases Y:D.d=some t
 ·have H:D.tv= .opt u b s:=by
   rw[Y,di] at J;simpa using J
  have src:=hs.src;unfold Src at src;cases hg:o.guard with
  |none=>rw[hg] at src;rw[src.2.1] at H;cases H
  |some p=>
   obtain⟨j,b'⟩:=p;rw[hg] at src;obtain⟨t',g,h1,h2,h3,h4,h5,h6,h7,h8⟩:=src;rw[h8] at H;simp only[TV.opt.injEq] at H;obtain⟨rfl,rfl,rfl⟩:=H;refine⟨?_, ?_⟩
   ·show arz (D.key.bind λ_=>D.d) A.og t=true;rw[h2,Y];simp[bZ]
   ·show arz (D.d.bind λ_=>D.key) A.ok _=true;rw[h2,Y];simp[bZ]
 ·rw[lJ Y] at J;obtain⟨k1,k2⟩:=h t u b s J;exact⟨N _ _ _ k1,N _ _ _ k2⟩
theorem Gy (H:eff P Γ hq tm bl G id op=some E) (hi:i∈wrI E):bl i≠none:=by
 have p1: ∀{o:Option SV},avY o=some E->False:=λh=>by obtain⟨s,_,rfl⟩:=cJ h;simp[wrI] at hi
 have Y: ∀{o:Option (Bool×SV)},pY o=some E->False:=λh=>by obtain⟨b,s,_,rfl⟩:=ia h;simp[wrI] at hi
 cases op with
 |lookup t m k ok=>
  exfalso;simp only[eff] at H;split at H
  ·obtain⟨_,_,_,_,_,J,_,_⟩:=lI H;simp[wrI,J] at hi
  ·cases H
 |store t x y=>
  simp only[eff] at H;split at H
  ·rename_i s v hs hv;unfold o9 at H;split at H
   ·rename_i j e o;split at H
    ·rename_i B hB;split at H
     ·split at H
      ·rename_i n e0;cases N:(Nat.beq v.cells.length n&&v.cells.all SV.one&&Nat.ble (o+v.cells.length) B.sz) with
       |false=>rw[N] at H;simp at H
       |true=>
        rw[N] at H;simp only[zdr,za1] at H;subst H;simp[wrI] at hi;subst hi;rw[hB];simp
      ·cases H
     ·cases H
    ·cases H
   ·cases H
  ·cases H
 |box t x=>
  exfalso;simp only[eff] at H;split at H
  ·cases H
  ·simp only[za1] at H;subst H;simp[wrI] at hi
  ·cases H
 |buildSlice t n parts=>
  exfalso;simp only[eff] at H;split at H
  ·split at H
   ·have H:=bG H;split at H
    ·simp only[za1] at H;subst H;simp[wrI] at hi
    ·cases H
   ·cases H
  ·cases H
 |load t x=>
  exfalso;simp only[eff] at H;split at H
  ·have J:E.wr=none:=by
    unfold rH at H;split at H
    ·split at H
     ·split at H
      ·cases H
      ·split at H
       ·split at H
        ·simp only[za1] at H;subst H;rfl
        ·cases H
       ·have H:=bG H;simp only[za1] at H;subst H;rfl
       ·cases H
     ·cases H
    ·cases H
   simp[wrI,J] at hi
  ·cases H
 |convert s d x=>
  exfalso;simp only[eff] at H;split at H
  ·split at H
   ·simp only[za1] at H;subst H;simp[wrI] at hi
   ·cases H
  ·split at H
   ·simp only[za1] at H;subst H;simp[wrI] at hi
   ·split at H
    ·simp only[za1] at H;subst H;simp[wrI] at hi
    ·cases H
   ·cases H
  ·split at H
   ·split at H
    ·split at H
     ·have H:=bG H;simp only[za1] at H;subst H;simp[wrI] at hi
     ·cases H
    ·cases H
   ·cases H
  ·cases H
 |slice t x lo a0 mx=>
  exfalso;cases mx with
  |some m=>simp[eff] at H
  |none=>
   simp only[eff] at H;split at H
   ·split at H
    ·have H:=bG H;simp only[za1] at H;subst H;simp[wrI] at hi
    ·cases H
   ·split at H
    ·split at H
     ·cases H
     ·have H:=bG H;simp only[za1] at H;subst H;simp[wrI] at hi
    ·cases H
   ·cases H
 |indexAddr t x y=>
  exfalso;simp only[eff] at H;split at H
  ·split at H
   ·split at H
    ·simp only[za1] at H;subst H;simp[wrI] at hi
    ·cases H
   ·cases H
  ·split at H
   ·split at H
    ·cases H
    ·have H:=bG H;simp only[za1] at H;subst H;simp[wrI] at hi
    ·cases H
   ·cases H
  ·split at H
   ·split at H
    ·have H:=bG H;simp only[za1] at H;subst H;simp[wrI] at hi
    ·cases H
   ·cases H
  ·cases H
 |index t x i=>
  exfalso;simp only[eff] at H;split at H
  ·split at H
   ·split at H
    ·split at H
     ·have H:=bG H;split at H
      ·simp only[za1] at H;subst H;simp[wrI] at hi
      ·cases H
     ·cases H
    ·split at H
     ·simp only[za1] at H;subst H;simp[wrI] at hi
     ·cases H
    ·cases H
   ·cases H
  ·split at H
   ·simp only[za1] at H;subst H;simp[wrI] at hi
   ·cases H
  ·cases H
 |call c=>
  exfalso;simp only[eff] at H;split at H
  ·split at H
   ·unfold ae2 at H;split at H
    ·split at H
     ·exact p1 H
     ·cases H
    ·split at H
     ·exact p1 H
     ·cases H
    ·split at H
     ·exact p1 H
     ·cases H
    ·cases H
   ·cases H
  ·split at H
   ·split at H
    ·exact Y H
    ·cases H
   ·cases H
 |_=>
  exfalso;simp only[eff] at H
  first
   |exact p1 H
   |(repeat' (first|(split at H)|(cases H;done)))
    all_goals first
     |exact p1 H
     |exact Y H
     |(simp only[za1] at H;subst H;simp[wrI] at hi;done)
theorem ayt {A1 A2:AS} {fx fi:li} (u0:OS A)
 (h1:step P Γ ops idx ox A=some (true,A1,fx)) (h2:step P Γ ops idi oi A1=some (true,A2,fi)) (E0:ox.apart ops oi=true) (i0:pZ fx fi=false) (a0:idx≠idi):
 ∃j0,step P Γ ops idi oi A=some (true,j0,fi)/\step P Γ ops idx ox j0=some (true,A2,fx):=by
 obtain⟨Dx,Y,rfl,rfl⟩:=VV.1 h1;obtain⟨Di,si,rfl,rfl⟩:=VV.1 h2;obtain⟨l0,C0,n0⟩:=Oper.apart_spec E0;unfold pZ at i0;simp only[zbr] at i0;obtain⟨⟨c1,c2⟩,c3⟩:=i0;have N: ∀i,i∈wrI Dx.E\/i∈nwI idx Dx.E->i∉Di.E.rd/\i∉wrI Di.E/\i∉nwI idi Di.E:=λi hi=>by
  have hm:i∈(aV idx Dx.E).2:=by simp only[aV,za8];exact hi
  have a:=jw c1 hm;have b:=jw c2 hm;simp only[aV,za8,not_or] at a b;exact⟨a,b.1,b.2⟩
 have I0: ∀i∈Dx.E.rd,i∉wrI Di.E/\i∉nwI idi Di.E:=λi hi=>by
  have b:=jw c3 (show i∈(aV idx Dx.E).1 from hi);simp only[aV,za8,not_or] at b;exact b
 have z0: ∀i,(i∈Di.E.rd\/i∈wrI Di.E)->i∉wrI Dx.E/\i∉nwI idx Dx.E:=λi hi=>
  ⟨λh=>(by rcases hi with hi|hi;exact(N i (.inl h)).1 hi;exact(N i (.inl h)).2.1 hi),λh=>(by rcases hi with hi|hi;exact(N i (.inr h)).1 hi;exact(N i (.inr h)).2.1 hi)⟩
 have e0:Src P Γ ops idi oi A Di:=(Stp.over u0 Y (λd H=>l0 d H) a0 z0).1 si.src;have L0: ∀d,oi.dst=some d->Dx.key≠some d:=λd H J=>by
  have src:=Y.src;unfold Src at src;cases hg:ox.guard with
  |none=>rw[hg] at src;rw[src.1] at J;cases J
  |some p=>
   obtain⟨j,b⟩:=p;rw[hg] at src;obtain⟨t,g,k1,k2,_⟩:=src;rw[k2] at J;refine n0 d H (zb1 _ ?_);rw[hg];simp at k1 ⊢;simp only[za1] at J;rw[<-J];exact k1
 have v0: ∀d,ox.dst=some d->Di.key≠some d:=λd H J=>by
  have src:=si.src;unfold Src at src;cases hg:oi.guard with
  |none=>rw[hg] at src;rw[src.1] at J;cases J
  |some p=>
   obtain⟨j,b⟩:=p;rw[hg] at src;obtain⟨t,g,k1,k2,_⟩:=src;rw[k2] at J;refine l0 d H (zb1 _ ?_);rw[hg];simp at k1 ⊢;simp only[za1] at J;rw[<-J];exact k1
 have w0: ∀(d:Option Nat) (f:zdQ) (x:Nat),arz d f x=false->f x=false:=by
  intro d f x hx;cases d with
  |none=>exact hx
  |some d=>rw[bZ] at hx;simp at hx;exact hx.2
 have o0:A.bl idi=none:=by
  have:=si.fresh;cases hb:A.bl idi with
  |none=>rfl
  |some B=>
   have tr:=gN Y.fresh (zaA _) Dx.E (β:=λ_=>⟨0,0,0,0,false⟩) (β':=λ_=>⟨0,0,0,0,false⟩) (λ_ _=>rfl);obtain⟨B',h,_⟩:=tr.keep idi B hb;have h':(app Dx idx A).bl idi=some B':=h;rw[h'] at this;cases this
 have y0:Stp P Γ ops idi oi A Di:=⟨si.d,o0,λd H=>by
  obtain⟨p1,p2,p3⟩:=si.put d H
  exact⟨p1,w0 _ _ _ p2,p3⟩,e0⟩
 have q0:idi≠idx:=Ne.symm a0;have B0: ∀i,(i∈Dx.E.rd\/i∈wrI Dx.E)->i∉wrI Di.E/\i∉nwI idi Di.E:=λi hi=>by
  rcases hi with hi|hi
  ·exact I0 i hi
  ·exact(N i (.inl hi)).2
 have x0:Src P Γ ops idx ox (app Di idi A) Dx:=(Stp.over u0 y0 (λd H=>n0 d H) q0 B0).2 Y.src;have g0: ∀(o:Oper) (id:Nat) (D:Dl),Src P Γ ops id o A D-> ∀i∈wrI D.E,A.bl i≠none:=λo id D src i hi=>by
  unfold Src at src;cases hg:o.guard with
  |none=>
   rw[hg] at src;exact Gy src.2.2.2 hi
  |some p=>
   obtain⟨j,b⟩:=p;rw[hg] at src;obtain⟨t,g,k1,k2,k3,k4,k5,_⟩:=src;simp[wrI,k5] at hi
 have w1: ∀i∈wrI Dx.E,i≠idi:=λi hi e=>g0 ox idx Dx Y.src i hi (by rw[e];exact o0);have w2: ∀i∈wrI Di.E,i≠idx:=λi hi e=>g0 oi idi Di e0 i hi (by rw[e];exact Y.fresh);have K0:Stp P Γ ops idx ox (app Di idi A) Dx:=by
  refine⟨Y.d, ?_,λd H=> ?_,x0⟩
  ·show VO A.bl idi Di.E idx=none
   rw[jX (λh=>w2 idx h rfl) (λh=>by
    unfold nwI at h;split at h
    ·simp at h;exact a0 h
    ·cases h)]
   exact Y.fresh
  ·obtain⟨p1,p2,p3⟩:=Y.put d H;refine⟨p1, ?_,p3⟩;show arz (Di.d.bind λ_=>Di.key) A.ok d=false;cases h3:Di.d with
   |none=>exact p2
   |some e=>
    cases h4:Di.key with
    |none=>exact p2
    |some k=>
     have H0:d≠k:=λe=>v0 d H (by rw[h4,e]);simp only[zcF,bZ,bS,p2];simp[H0]
 refine⟨app Di idi A,VV.2 ⟨Di,y0,rfl,rfl⟩,VV.2 ⟨Dx,K0, ?_,rfl⟩⟩;exact Gx (λd H J=>C0 d (by rw[<-Y.d,H]) (by rw[<-si.d,J])) a0 (λi hi=>⟨(N i (.inl hi)).2.1,w1 i hi⟩) w2
end
section
variable {P:Program} {W0:Base}
def StepAt (P:Program) (Γ:zdP) (ops:zdO) (base i:Nat) (A A':AS) (f:li):Prop:=
 ∃o,ops.toList[i]? =some o/\step P Γ ops (base+i) o A=some (true,A',f)
def Steps (P:Program) (Γ:zdP) (ops:zdO) (base:Nat) (F:Nat->li):List Nat->AS->zdS
 | [],A,A'=>A=A'
 |i::r,A,A'=> ∃H,StepAt P Γ ops base i A H (F i)/\Steps P Γ ops base F r H A'
variable {b:Bool}
theorem Xg {K:Prop}:ah b K↔b=true/\K:=by cases b<;>simp[ah]
theorem acQ {Γ:zdP} {ops:zdO} {base:Nat} {K:AS->List li->Prop}: ∀(rest:List Oper) (i:Nat) (A:AS) (tr:List li),(∀j,rest[j]? =ops.toList[i+j]?)->
 rK P Γ ops base rest i A tr K-> ∃(A':AS) (H:List li),H.length=rest.length/\K A' (tr.reverse++H)/\Steps P Γ ops base (λx=>H.getD (x - i) ([], [])) (List.range' i rest.length) A A'
 | [],i,A,tr,_,h=>⟨A, [],rfl,by simpa [rK] using h,rfl⟩
 |o::rest,i,A,tr,hr,h=>by
  simp only[rK] at h;split at h
  ·rename_i b N f hs;obtain⟨hb,h⟩:=Xg.1 h;subst hb;obtain⟨A',H,h1,h2,h3⟩:=acQ rest (i+1) N (f::tr) (λj=>by have:=hr (j+1);simpa [zbq,zb3 1 j] using this) h;refine⟨A',f::H,by simp[h1],by simpa using h2, ?_⟩;rw[za4,List.range'_succ];refine⟨N,⟨o,by have:=hr 0;simpa using this.symm,by simpa using hs⟩, ?_⟩;have key: ∀(l:zdH) (A A':AS),(∀x∈l,i+1<=x)->Steps P Γ ops base (λx=>H.getD (x - (i+1)) ([], [])) l A A'->Steps P Γ ops base (λx=>(f::H).getD (x - i) ([], [])) l A A':=by
    intro l
    induction l with
    |nil=>intro A A' _ h;exact h
    |cons y l ih=>
     intro A A' Y h;obtain⟨A2,⟨o2,k1,k2⟩,k3⟩:=h;have hy:=Y y (by simp);refine⟨A2,⟨o2,k1, ?_⟩,ih _ _ (λx J=>Y x (zan _ J)) k3⟩;rw[k2];have:y - i=(y - (i+1))+1:=by omega
     simp[this]
   exact key _ _ _ (λx J=>by simp[List.mem_range'] at J;omega) h3
  ·exact h.elim
variable {Γ:zdP} {ops:zdO} {base:Nat} {A A':AS} {f:li}
theorem StepAt.os {i:Nat} (h:StepAt P Γ ops base i A A' f) (H:OS A):OS A':=by
 obtain⟨o,_,J⟩:=h;obtain⟨D,st,rfl,_⟩:=VV.1 J;exact H.app st
def B9 (ops:zdO) (F:Nat->li) (x i:Nat):Prop:=x≠i/\ ∃J H,ops.toList[x]? =some J/\ops.toList[i]? =some H/\J.apart ops H=true/\pZ (F x) (F i)=false
theorem Steps.bubble {Γ:zdP} {ops:zdO} {base:Nat} {F:Nat->li} {i:Nat} {v:zdH} {A':AS}: ∀(u:zdH) (A:AS),OS A->(∀x∈u,B9 ops F x i)->
 Steps P Γ ops base F (u++i::v) A A'->Steps P Γ ops base F (i::(u++v)) A A'
 | [],A,_,_,h=>h
 |x::u,A,H,hf,h=>by
  obtain⟨A1,sx,hr⟩:=h;obtain⟨A2,si,a0⟩:=Steps.bubble u A1 (sx.os H) (λy hy=>hf y (zan _ hy)) hr;obtain⟨i0,ox,oi,h1,h2,N,Y⟩:=hf x (by simp);obtain⟨g0,k1,k2⟩:=sx;obtain⟨e0,k3,k4⟩:=si;rw[h1] at k1;obtain rfl:ox=g0:=by simpa using k1
  rw[h2] at k3;obtain rfl:oi=e0:=by simpa using k3
  obtain⟨J,c1,c2⟩:=ayt H k2 k4 N Y (by omega);exact⟨J,⟨oi,h2,c1⟩,A2,⟨ox,h1,c2⟩,a0⟩
def jY (ops:zdO) (listed:Array Bool):Prop:= ∀i,listed.getD i false=true-> ∀o,ops.toList[i]? =some o-> ∀e∈o.after.toList,Region.binds .any e=true->listed.getD e.on false=true
theorem nY (m x:Nat):Ab m x=m.testBit x:=by
 unfold Ab;rw[bS,Nat.testBit_eq_decide_div_mod_eq];show decide ((m>>>x)&&&1=1)=_;rw[Nat.and_one_is_mod,Nat.shiftRight_eq_div_pow]
theorem r8 {f:Nat->Nat} {x:Nat}: ∀{l:List Edge},Ab (rJ f l) x=true-> ∃e∈l,Region.binds .any e=true/\(e.on=x\/Ab (f e.on) x=true)
 | [],h=>by simp[nY,rJ] at h
 |e::r,h=>by
  rw[nY,show rJ f (e::r)=(bif Region.binds .any e then(1<<<e.on|||f e.on) else 0)|||rJ f r from rfl,Nat.testBit_or,zav] at h;rcases h with h|h
  ·cases H:Region.binds .any e with
   |false=>rw[H] at h;simp at h
   |true=>
    rw[H,zdr,Nat.testBit_or,zav] at h;refine⟨e,by simp,H, ?_⟩;rcases h with h|h
    ·rw[Nat.one_shiftLeft,Nat.testBit_two_pow] at h;exact .inl (zdu h)
    ·exact .inr (by rw[nY];exact h)
  ·rw[<-nY] at h;obtain⟨J,h1,h2⟩:=r8 h;exact⟨J,zan _ h1,h2⟩
theorem Yu {ops:zdO} {listed:Array Bool} (hc:jY ops listed): ∀(r:List Oper) (i:Nat) (J:zdH),J.length=i->(∀j o,r[j]? =some o->ops.toList[i+j]? =some o)->
 (∀j,j<i-> ∀x,(∀o,ops.toList[j]? =some o-> ∀e∈o.after.toList,Region.binds .any e=true->listed.getD e.on false=true)->Ab (J.getD (i - 1 - j) 0) x=true->listed.getD x false=true)->
 (xZ r i J).length=i+r.length/\ ∀j,j<i+r.length-> ∀x,(∀o,ops.toList[j]? =some o-> ∀e∈o.after.toList,Region.binds .any e=true->listed.getD e.on false=true)->Ab ((xZ r i J).getD (i+r.length - 1 - j) 0) x=true->listed.getD x false=true
 | [],i,J,hl,_,h=>⟨hl,h⟩
 |o::r,i,J,hl,ho,h=>by
  have:=Yu hc r (i+1) (rJ (λj=>bif Nat.blt j i then J.getD (i - 1 - j) 0 else 0) o.after.toList::J) (by simp[hl]) (λj o' hj=>by
   have:=ho (j+1) o' (by simpa using hj);rwa[show i+(j+1)=i+1+j by omega] at this) (λj hj x hx hb=>by
   by_cases i0:j=i
   ·subst i0;rw[show j+1 - 1 - j=0 by omega] at hb;obtain⟨e,he,e0,H⟩:=r8 (by simpa using hb);have Y:=hx o (ho 0 o (by simp)) e he e0;rcases H with rfl|H
    ·exact Y
    ·cases N:Nat.blt e.on j with
     |false=>rw[N] at H;simp[nY] at H
     |true=>
      rw[N] at H;exact h e.on (by rw[aB] at N;exact zdu N) x (λo' j0 e' g0 a0=>hc e.on Y o' j0 e' g0 a0) H
   ·refine h j (by omega) x hx ?_;rw[show i+1 - 1 - j=(i - 1 - j)+1 by omega] at hb
    simpa using hb)
  rw[xZ,za4,show i+(r.length+1)=i+1+r.length by omega];exact this
theorem mz {listed:Array Bool} (N:jY ops listed) (k i x:Nat) (J:k=ops.size) (hi: ∀o,ops.toList[i]? =some o-> ∀e∈o.after.toList,Region.binds .any e=true->listed.getD e.on false=true)
 (h:bK ops.toList k i x=true):listed.getD x false=true:=by
 unfold bK at h;rw[za2,aB,zdt] at h;have:=(Yu N ops.toList 0 [] rfl (λj o H=>by simpa using H) (λj H=>by omega)).2 i (by rw[J] at h;simpa using h.1) x hi;rw[za7,show ops.toList.length=k by rw[J];simp] at this;exact this h.2
variable {β:zdI} {a:Act}
theorem FR.toOS (h:FR β A a):OS A:=h.os
variable {Q:zdN}
theorem yg (hΓ:GamOK P W0 Γ) {F:Nat->li} 
 (x0: ∀i x,i<ops.size->x<i->bK ops.toList ops.toList.length i x=true\/B9 ops F x i)
 (v0: ∀i o,ops.toList[i]? =some o-> ∀e∈o.after.toList,Region.binds .any e=true->e.on<i) {W:zdH} (hW: ∀i,∀j∈(F i).2,j∈W) {A0:AS} {β0:zdI} (M0:base=A0.nx)
 (hQ: ∀a w β,FR β A' a->BC W0 A'.bl β w->Tr A0.bl A0.nx W β0 A'.bl β->A'.nx=A0.nx->A'.wl=A0.wl->A'.nt=A0.nt->Q .normal a w):
 ∀(J:Nat) (listed:Array Bool) (rem:zdH) (A:AS) (a:Act) (w:World) (β:zdI),listed.size=ops.size->rem.length<=J->rem.Pairwise (· < ·)->(∀x,x∈rem↔x<ops.size/\listed.getD x true=false)->jY ops listed->
  Steps P Γ ops base F rem A A'->FR β A a->BC W0 A.bl β w->Tr A0.bl A0.nx W β0 A.bl β->A.nx=A0.nx->A.wl=A0.wl->A.nt=A0.nt->aFo P .any ops Q J listed a w:=by
 intro J
 induction J with
 |zero=>
  intro listed rem A a w β K0 q0 g0 H w0 n0 a0 j0 o0 h1 h2 h3;have E0:rem= []:=zcI.1 (by omega);subst E0;obtain rfl:A=A':=n0;refine⟨?_,hQ a w β a0 j0 o0 h1 h2 h3⟩;apply zdf.2;intro i hi;obtain⟨i0,o,ho,_⟩:=mem_ready.1 hi;have e0:i<ops.size:=(zaq.1 ho).1;exact absurd ((H i).2 ⟨e0,i0⟩) (by simp)
 |succ J ih=>
  intro listed rem A a w β K0 q0 g0 H w0 n0 a0 j0 o0 h1 h2 h3;refine⟨λhr=> ?_,λi hi=> ?_⟩
  ·
   cases rem with
   |nil=>
    obtain rfl:A=A':=n0;exact hQ a w β a0 j0 o0 h1 h2 h3
   |cons i r=>
    exfalso;have l0:=(H i).1 (by simp);have ho: ∃o,ops[i]? =some o:=⟨ops[i],by simp[l0.1]⟩;obtain⟨o,ho⟩:=ho;have:i∈Region.ready .any ops listed:=by
     refine mem_ready.2 ⟨l0.2,o,ho,λe he hb=> ?_⟩;have e0:=v0 i o (by simpa using ho) e (by simpa using he) hb;cases hl:listed.getD e.on false with
     |true=>rfl
     |false=>
      have N0:e.on<listed.size:=by omega
      have i0:listed.getD e.on true=false:=by
       rw[<-hl];simp[Array.getD,N0]
      have u0:=(H e.on).2 ⟨by omega,i0⟩;simp only[zai] at u0;rcases u0 with h|h
      ·omega
      ·have:=zdg g0 h;omega
    rw[hr] at this;cases this
  ·obtain⟨i0,o,ho,Y⟩:=mem_ready.1 hi;have e0:i<ops.size:=(zaq.1 ho).1;have y0:ops.toList[i]? =some o:=by simpa using ho
   have l0:i∈rem:=(H i).2 ⟨e0,i0⟩;obtain⟨u,v,rfl⟩:=zcg l0;have H0: ∀x∈u,x<i:=λx hx=>(zbJ.1 g0).2.2 x hx i (by simp);have P0:i∉u:=λh=>by have:=H0 i h;omega
   have Q0:i∉v:=λh=>by
    have:=(zbJ.1 g0).2.1;have:=zdg this h;omega
   have O0: ∀x∈u,B9 ops F x i:=by
    intro x hx;rcases x0 i x e0 (H0 x hx) with hb|hf
    ·exfalso
     have hl:=mz w0 _ i x (by simp) (λo' N e he L0=>by
      rw[y0] at N;obtain rfl:o=o':=by simpa using N
      exact Y e (by simpa using he) L0) hb
     have R0:=(H x).1 (by simp[hx]);have B0:x<listed.size:=by omega
     have:=R0.2;simp[Array.getD,B0] at this hl;rw[this] at hl;cases hl
    ·exact hf
   obtain⟨A1,⟨o',k1,k2⟩,I0⟩:=Steps.bubble u A a0.toOS O0 n0;rw[y0] at k1;obtain rfl:o=o':=by simpa using k1
   have k:=mO hΓ a0 j0 (by omega) k2 (Q:=Q) (K:=aFo P .any ops Q J (listed.setIfInBounds i true)) (λa' w' β' r1 r2 r3 r4 r5 r6=>by
    refine ih (listed.setIfInBounds i true) (u++v) A1 a' w' β' (by simp[K0]) (by simp at q0 ⊢;omega) ?_ ?_ ?_ I0 r1 r2 ?_ (r4.trans h1) (r5.trans h2) (r6.trans h3)
    ·have hp:=zbJ.1 g0;refine zbJ.2 ⟨hp.1,(zcJ.1 hp.2.1).2,λx hx y hy=>hp.2.2 x hx y (zan _ hy)⟩
    ·intro x;have hm:=H x;simp only[za8,zai] at hm ⊢;by_cases z0:x=i
     ·subst z0;constructor
      ·rintro(h|h)
       ·exact absurd h P0
       ·exact absurd h Q0
      ·rintro⟨_,h⟩;have B0:x<listed.size:=by omega
       simp[Array.getD,B0] at h
     ·rw[getD_set_ne true (Ne.symm z0),<-hm];constructor
      ·rintro(h|h)
       ·exact .inl h
       ·exact .inr (.inr h)
      ·rintro(h|h|h)
       ·exact .inl h
       ·exact absurd h z0
       ·exact .inr h
    ·intro j hj o' N e he hb;by_cases C0:j=i
     ·subst C0;rw[y0] at N;obtain rfl:o=o':=by simpa using N
      exact getD_set_true (Y e (by simpa using he) hb)
     ·rw[getD_set_ne false (Ne.symm C0)] at hj;exact getD_set_true (w0 j hj o' N e he hb)
    ·exact o0.trans r3 (by omega) (λ_ h=>h) (λj hj=>hW i j hj))
   unfold ayH;simp only[ho];by_cases hw:Region.wanted o (yielded ops a.tmps)=true
   ·rw[if_pos hw] at k ⊢;exact .inl k
   ·rw[if_neg hw] at k ⊢;exact k
theorem DK {tr:List li} (h:free ops ops.toList tr=true) (N:tr.length=ops.size):
 (∀i x,i<ops.size->x<i->bK ops.toList ops.toList.length i x=true\/B9 ops (λx=>tr.getD x ([], [])) x i)/\
 (∀i o,ops.toList[i]? =some o-> ∀e∈o.after.toList,Region.binds .any e=true->e.on<i):=by
 unfold free at h;simp only[zaf,zaC,za2] at h;refine⟨λi x hi hx=> ?_,λi o J e he hb=> ?_⟩
 ·have h1:=(h i (by simpa using hi)).2 x hx;simp only[zav] at h1;rcases h1 with h1|h1
  ·exact .inl h1
  ·right;split at h1
   ·rename_i oi ox fi fx Y a2 a3 a4;simp only[za2,zap] at h1;refine⟨by omega,ox,oi,a2,Y,h1.1, ?_⟩;simp only[zdh,a3,a4,Option.getD_some];exact h1.2
   ·cases h1
 ·have hi:i<ops.toList.length:=by
   rcases zah i ops.toList.length with H|H
   ·exact H
   ·rw[zad H] at J;cases J
  have h1:=(h i hi).1;rw[J] at h1;simp only[zb0,Option.getD_some,zaf,zav,zap] at h1;rcases h1 e he with h2|h2
  ·rw[hb] at h2;cases h2
  ·simpa [zb2] using h2
theorem nB {d:Option Tmp} {v:TV} (h:putD A d v=some A'):A'.sd=A.sd:=by
 cases d with
 |none=>simp only[putD,za1] at h;rw[<-h]
 |some d=>
  simp only[putD] at h;cases H:(Nat.blt d A.nt&& !A.ok d) with
  |false=>rw[H] at h;cases h
  |true=>rw[H] at h;simp only[zdr,za1] at h;rw[<-h];rfl
theorem ae3 {id:Nat} {o:Oper} (h:step P Γ ops id o A=some (b,A',f)):A'.sd=A.sd:=by
 unfold step at h;split at h
 ·split at h
  ·cases H:fresh A id with
   |false=>rw[H] at h;cases h
   |true=>
    rw[H] at h;simp only[zdr] at h;split at h
    ·rename_i hp;simp only[za1,zag] at h;rw[<-h.2.1];have:=nB hp;exact this
    ·cases h
  ·cases h
 ·split at h
  ·split at h
   ·split at h
    ·cases H:fresh A id with
     |false=>rw[H] at h;cases h
     |true=>
      rw[H] at h;simp only[zdr] at h;split at h
      ·rename_i d hp;simp only[za1,zag] at h;rw[<-h.2.1];unfold putG at hp;split at hp
       ·simp only[za1] at hp;rw[<-hp]
       ·rename_i J _ _ _;revert hp;generalize (Nat.blt _ A.nt&& !A.ok _&& !Nat.beq _ _)=c;cases c with
        |false=>intro hp;cases hp
        |true=>intro hp;simp only[zdr,za1] at hp;rw[<-hp];rfl
      ·cases h
    ·cases h
   ·cases h
  ·cases h
theorem Steps.sd {Γ:zdP} {ops:zdO} {base:Nat} {F:Nat->li} {A':AS}: ∀(l:zdH) (A:AS),Steps P Γ ops base F l A A'->A'.sd=A.sd
 | [],A,h=>by obtain rfl:A=A':=h;rfl
 |i::r,A,h=>by
  obtain⟨H,⟨o,_,h1⟩,h2⟩:=h;exact(Steps.sd r H h2).trans (ae3 h1)
theorem Steps.none {Γ:zdP} {ops:zdO} {base:Nat} {F:Nat->li} {A':AS} {n:Nat}: ∀(l:zdH) (A:AS),(∀i∈l,i<n)->Steps P Γ ops base F l A A'->(∀j,base+n<=j->A.bl j=none)-> ∀j,base+n<=j->A'.bl j=none
 | [],A,_,h,h0=>by obtain rfl:A=A':=h;exact h0
 |i::r,A,Y,h,h0=>by
  obtain⟨A1,⟨o,_,hs⟩,hr⟩:=h;refine Steps.none r A1 (λx hx=>Y x (zan _ hx)) hr (λj hj=> ?_);obtain⟨D,st,rfl,_⟩:=VV.1 hs;have hi:=Y i (by simp);have H:=h0 j hj;have tr:=gN (nx:=base+i) st.fresh (za0 _) D.E (β:=λ_=>⟨0,0,0,0,false⟩) (β':=λ_=>⟨0,0,0,0,false⟩) (λ_ _=>rfl);show VO A.bl (base+i) D.E j=Option.none;rw[yf];have a0:j≠base+i:=by omega
  have h1:U (wrU D.E) A.bl j=Option.none:=by
   unfold U;cases J:wrU D.E with
   |none=>exact H
   |some p=>
    obtain⟨k,G⟩:=p;simp only[];split
    ·unfold wrU at J;cases N:D.E.wr with
     |none=>simp[N] at J
     |some q=>obtain⟨a,b,c,d⟩:=q;simp[N] at J;rw[<-J.2,H];rfl
    ·exact H
  unfold U at h1 ⊢;cases J:nwU (base+i) D.E with
  |none=>exact h1
  |some p=>
   obtain⟨k,G⟩:=p;have:=nX J;simp only[];rw[if_neg (by omega)];exact h1
theorem Aj (hΓ:GamOK P W0 Γ) (i0:P.follows .mixedOrders=true) {rid:Nat} {w:World} {K:AS->List li->Prop}
 (h:rK P Γ ops A.nx ops.toList 0 A [] λA' tr=>ah (free ops ops.toList tr) (K A' tr)) (g0:FR β A a) (a0:BC W0 A.bl β w) 
 (hQ: ∀A' tr Y w' β',K A' tr->FR β' A' Y->BC W0 A'.bl β' w'->Tr A.bl A.nx (alD tr) β A'.bl β'->A'.nx=A.nx->A'.wl=A.wl->A'.nt=A.nt->A'.sd=A.sd->((∀j,A.nx+ops.size<=j->A.bl j=none)-> ∀j,A.nx+ops.size<=j->A'.bl j=none)->Q .normal Y w') {fb:Frame} (hdf:fb.roundOf=none\/ops.toList.all ln=true):WpB P fb (.region rid ops true) Q a w:=by
 obtain⟨A',H,h1,h2,h3⟩:=acQ ops.toList 0 A [] (λj=>by simp) h;simp only[List.reverse_nil,zaM] at h2;obtain⟨hf,hK⟩:=Xg.1 h2;obtain⟨f1,f2⟩:=DK hf (by simpa using h1);refine WpB.region_any i0 hdf ?_;have e0:Below w.heap.size w {w with drawn:=w.drawn+1}:=(zdC _ _).drew;have J: ∀(l:List li) (i:Nat),∀j∈(l.getD i ([], [])).2,j∈alD l:=by
  intro l
  induction l with
  |nil=>intro i j N;simp at N
  |cons f l ih=>
   intro i j N;cases i with
   |zero=>simp at N;simp[alD,N]
   |succ i=>simp only[alD,za8];right;exact ih i j (by simpa using N)
 refine yg hΓ (base:=A.nx) (F:=λx=>H.getD x ([], [])) (A':=A') f1 f2 (W:=alD H) (J H) (A0:=A) (β0:=β) rfl
  (λY w' β' r1 r2 r3 r4 r5 r6=>hQ A' H Y w' β' hK r1 r2 r3 r4 r5 r6 (Steps.sd _ A h3) (Steps.none _ A (λi hi=>by simp[List.mem_range'_1] at hi;exact hi) h3)) ops.size _ (List.range' 0 ops.toList.length) A a _ β (by simp) (by simp) ?_ ?_ ?_ ?_ g0 (a0.step e0) (Tr.refl _ _ _ _) rfl rfl rfl
 ·exact List.pairwise_lt_range'
 ·intro x;simp only[List.mem_range'_1];simp[Array.getD]
 ·intro i hi;exfalso;simp[Array.getD] at hi
 ·simpa using h3
end
end Go.Sy
