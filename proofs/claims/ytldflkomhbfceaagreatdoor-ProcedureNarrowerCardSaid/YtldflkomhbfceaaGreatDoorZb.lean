import Derived.Test.YtldflkomhbfceaaGreatDoorZa
import Derived.WalkKit
import Derived.Orders
import Derived.Below
import Derived.Scope
import Derived.ArgAppend
import Derived.MapKept
set_option linter.unusedVariables false
set_option linter.unusedSimpArgs false
namespace Go.Sy
open Go.RowKit
section
inductive SV where
 |val (v:Value)
 |ptr (id e o:Nat)
 |slc (id e len:Nat)
 |agg (cs:List SV)
 |tup (vs:List SV)
 |fn (f:Fn) (first caps:List SV)
 |mp (id:Nat)
 deriving Inhabited
structure Loc where
 blk:Nat
 off:Nat
 sz:Nat
 cap:Nat
 nil:Bool
abbrev _root_.zdM:=Nat->Loc
def oj:zdM:=λ_=>⟨0,0,0,0,false⟩
def addr (β:zdM) (id e o:Nat):Addr:=⟨(β id).blk,(β id).off+e*(β id).sz+o,none⟩
mutual
def SV.conc (β:Nat->Loc):SV->Value
 | .val v=>v
 | .ptr id e o=> .pointer (some (addr β id e o))
 | .slc id e len=> .slice (bif (β id).nil then none else some (addr β id (bif Nat.beq (β id).cap e then 0 else e) 0)) len ((β id).cap - e)
 | .agg cs=> .agg (SV.concs β cs).toArray
 | .tup vs=> .tuple (SV.concs β vs).toArray
 | .fn f a c=> .func f (SV.concs β a).toArray (SV.concs β c).toArray
 | .mp id=> .map (some (β id).blk)
def SV.concs (β:Nat->Loc):List SV->List Value
 | []=> []
 |x::xs=>SV.conc β x::SV.concs β xs
end
theorem bS (i j:Nat):Nat.beq i j=decide (i=j):=by
 by_cases h:i=j
 ·subst h;simp
 ·have:Nat.beq i j=false:=by
   cases hh:Nat.beq i j with
   |false=>rfl
   |true=>exact absurd (zab hh) h
  simp[this,h]
theorem aB {i b:Nat}:Nat.blt i b=decide (i<b):=by
 by_cases h:i<b
 ·rw[zds h];exact zae h
 ·rw[zdv h];cases J:Nat.blt i b with
  |true=>exact absurd (zak J) h
  |false=>rfl
theorem jq {β:zdM} {id e len:Nat} (V:(β id).nil=false) (J:(β id).cap≠e\/e=0):(SV.slc id e len).conc β= .slice (some (addr β id e 0)) len ((β id).cap - e):=by
 simp only[SV.conc,V,zdt];rcases J with J|rfl
 ·rw[bS];simp[J]
 ·simp
abbrev _root_.zdN:=List SV
theorem SV.concs_eq (β:zdM) (l:zdN):SV.concs β l=l.map (SV.conc β):=by
 induction l with
 |nil=>simp[SV.concs]
 |cons x xs J=>simp[SV.concs,J]
mutual
def SV.ids:SV->List Nat
 | .val _=> []
 | .ptr id _ _=> [id]
 | .slc id _ _=> [id]
 | .agg cs=>SV.idss cs
 | .tup vs=>SV.idss vs
 | .fn _ a c=>SV.idss a++SV.idss c
 | .mp id=> [id]
def SV.idss:List SV->List Nat
 | []=> []
 |x::xs=>SV.ids x++SV.idss xs
end
theorem SV.mem_idss {l:zdN} {i:Nat}:i∈SV.idss l↔ ∃x∈l,i∈SV.ids x:=by
 induction l with
 |nil=>simp[SV.idss]
 |cons x xs J=>simp[SV.idss,J]
mutual
theorem SV.conc_congr {β β':Nat->Loc}: ∀(s:SV),(∀i∈s.ids,β' i=β i)->s.conc β'=s.conc β
 | .val _,_=>by simp[SV.conc]
 | .ptr id e o,h=>by simp[SV.conc,addr,h id (by simp[SV.ids])]
 | .slc id e l,h=>by simp[SV.conc,addr,h id (by simp[SV.ids])]
 | .agg cs,h=>by simp[SV.conc,SV.concs_congr cs (by simpa [SV.ids] using h)]
 | .tup cs,h=>by simp[SV.conc,SV.concs_congr cs (by simpa [SV.ids] using h)]
 | .mp id,h=>by simp[SV.conc,h id (by simp[SV.ids])]
 | .fn f a c,h=>by
   simp[SV.conc,SV.concs_congr a (λi hi=>h i (by simp[SV.ids,hi])),SV.concs_congr c (λi hi=>h i (by simp[SV.ids,hi]))]
theorem SV.concs_congr {β β':Nat->Loc}: ∀(l:List SV),(∀i∈SV.idss l,β' i=β i)->SV.concs β' l=SV.concs β l
 | [],_=>rfl
 |x::xs,h=>by
  simp[SV.concs,SV.conc_congr x (λi hi=>h i (by simp[SV.idss,hi])),SV.concs_congr xs (λi hi=>h i (by simp[SV.idss,hi]))]
end
def ofV:Value->SV
 | .agg cs=> .agg (cs.toList.map SV.val)
 | .func f a c=> .fn f (a.toList.map SV.val) (c.toList.map SV.val)
 |v=> .val v
abbrev _root_.zdO:=List Value
theorem uT (β:zdM) (l:zdO):SV.concs β (l.map SV.val)=l:=by
 induction l with
 |nil=>rfl
 |cons x xs J=>simp[SV.concs,SV.conc,J]
theorem aml (l:zdO):SV.idss (l.map SV.val)= []:=by
 induction l with
 |nil=>rfl
 |cons x xs J=>simp[SV.idss,SV.ids,J]
theorem rE (β:zdM) (v:Value):(ofV v).conc β=v:=by
 cases v<;>simp[ofV,SV.conc,uT]
theorem BX (v:Value):(ofV v).ids= []:=by
 cases v<;>simp[ofV,SV.ids,aml]
def SV.cells:SV->zdN
 | .agg cs=>cs
 |v=> [v]
theorem SV.cells_conc (β:zdM) (s:SV) (h: ∀cs,s≠ .val (.agg cs)):(s.conc β).cells=(SV.concs β s.cells).toArray:=by
 cases s with
 |val v=>cases v<;>first|rfl|exact absurd rfl (h _)
 |_=>simp[SV.conc,SV.cells,Value.cells,SV.concs]
def SV.one:SV->Bool
 | .val v=>v.oneCell'
 | .agg _| .tup _=>false
 |_=>true
variable {s:SV}
theorem SV.one_conc (β:zdM) (h:s.one=true):(s.conc β).oneCell'=true:=by
 cases s<;>simp_all [SV.one,SV.conc,Value.oneCell']
inductive BK where
 |own|old|gone|mpL|mpI|mpB|itL|itK
 deriving DecidableEq
def BK.map:BK->Bool
 | .mpL| .mpI| .mpB| .itL| .itK=>true
 |_=>false
def BK.it:BK->Bool
 | .itL| .itK=>true
 |_=>false
def BK.lst:BK->Bool
 | .mpL| .itL=>true
 |_=>false
structure Blk where
 n:Nat
 sz:Nat
 get:Nat->List SV
 kd:BK
 nn:Bool:=true
structure BlkOK (β:Nat->Loc) (id:Nat) (B:Blk) (w:World):Prop where
 sz:(β id).sz=B.sz
 lt:(β id).nil=false->(β id).blk<w.heap.size
 le:B.n<=(β id).cap
 len: ∀e,e<B.n->(B.get e).length=B.sz
 ex: ∀j,j<(β id).cap*B.sz->(w.cell? ⟨(β id).blk,(β id).off+j,none⟩).isSome=true
 fr:B.kd= .own-> ∀j,j<(β id).cap*B.sz->w.frozen? ⟨(β id).blk,(β id).off+j,none⟩=false
 val: ∀e,e<B.n-> ∀(o:Nat) (s:SV),(B.get e)[o]? =some s->w.cell? (addr β id e o)=some (s.conc β)
 nil:(β id).nil=true->(β id).cap=0
 nn:B.nn=true->(β id).nil=false
variable {β:zdM} {id:Nat} {B:Blk} {w:World}
theorem BlkOK.lt_cap (h:BlkOK β id B w) {j:Nat} (V:j<(β id).cap*B.sz):(β id).nil=false/\(β id).blk<w.heap.size:=by
 cases J:(β id).nil with
 |false=>exact⟨rfl,h.lt J⟩
 |true=>rw[h.nil J] at V;omega
variable {e:Nat}
theorem BlkOK.not_nil (h:BlkOK β id B w) (V:e<B.n):(β id).nil=false:=by
 cases J:(β id).nil with
 |false=>rfl
 |true=>have:=h.nil J;have:=h.le;omega
abbrev _root_.zdP:=Nat->Option Blk
def Live (bl:zdP) (s:SV):Prop:= ∀i∈s.ids,bl i≠none
def valF (bo:Bool) (z:Int):Value:=bif bo then .bool (z !=0) else .int .i64 z
def dS (bo:Bool):Nat->List (Nat×Int)->List MapEntry
 |_, []=> []
 |i,(k,v)::r=>{key:= .int .i64 k,val:=valF bo v,born:=i}::dS bo (i+1) r
def d9:List (Nat×Int)->Nat->Int
 | [],_=>0
 |(k,v)::r,j=>if k=j then v else d9 r j
def iG:List SV->Int
 | .val (.int _ z)::_=>z
 |_=>0
def su:List SV->Bool
 | .val (.bool b)::_=>b
 |_=>false
structure BD where
 write:FuncId
 str:FuncId
 tb:TypeId
structure Base where
 w:World
 S:Nat->Bool
 F:Nat->Bool:=λ_=>false
 hF: ∀b,F b=true->b<w.heap.size/\S b=false:=by intro _ h;cases h
 sd:Option BD×Option (Nat×ByteArray):=(none,none)
instance:Coe World Base:=⟨λw=>{w:=w,S:=λ_=>false}⟩
def Base.mine (W:Base) (b:Nat):Prop:=W.w.heap.size<=b\/W.S b=true
def Base.out (W:Base) (b:Nat):Prop:= ¬W.mine b/\W.F b=false
structure Pres (W:Base) (w:World):Prop where
 os:w.os=W.w.os
 tape:w.tape=W.w.tape
 output:w.output=W.w.output
 size:W.w.heap.size<=w.heap.size
 block: ∀k,k<W.w.heap.size->W.S k=false->w.heap[k]? =W.w.heap[k]?
variable {W:Base} {w':World}
theorem Pres.step (h:Pres W w) (J:Below w.heap.size w w'):Pres W w':=
 ⟨J.os.trans h.os,J.tape.trans h.tape,J.output.trans h.output,zac h.size J.size,λk V Y=>(J.block k (zam V h.size)).trans (h.block k V Y)⟩
variable {b:Nat}
theorem Pres.at (h:Pres W w) (J:W.mine b) (h1:w'.os=w.os) (h2:w'.tape=w.tape) (h3:w'.output=w.output) (h4:w'.heap.size=w.heap.size) (h5: ∀i,i≠b->w'.heap[i]? =w.heap[i]?):Pres W w':=
 ⟨h1.trans h.os,h2.trans h.tape,h3.trans h.output,by rw[h4];exact h.size,λk Y V=>by
   rw[h5 k λe=> ?_]
   ·exact h.block k Y V
   ·subst e;rcases J with J|J
    ·omega
    ·rw[V] at J;cases J⟩
theorem Pres.refl (w:World):Pres w w:=⟨rfl,rfl,rfl,za0 _,λ_ _ _=>rfl⟩
theorem Pres.self (W:Base):Pres W W.w:=⟨rfl,rfl,rfl,za0 _,λ_ _ _=>rfl⟩
theorem Pres.below {W:World} (h:Pres W w):Below W.heap.size W w:=⟨h.os,h.tape,h.output,h.size,λk J=>h.block k J rfl⟩
theorem Pres.of {W:World} (h:Below W.heap.size W w):Pres W w:=⟨h.os,h.tape,h.output,h.size,λk J _=>h.block k J⟩
def SubB (B W:Base):Prop:=Pres W B.w/\ ∀b,B.S b=true->W.mine b
theorem SubB.pres {B:Base} (h:SubB B W) (hp:Pres B w):Pres W w:=
 ⟨hp.os.trans h.1.os,hp.tape.trans h.1.tape,hp.output.trans h.1.output,zac h.1.size hp.size,λk Y V=>by
   rw[hp.block k (zam Y h.1.size) ?_,h.1.block k Y V];cases Z:B.S k with
   |false=>rfl
   |true=>
    rcases h.2 k Z with J|J
    ·omega
    ·rw[V] at J;cases J⟩
theorem SubB.refl (B:Base):SubB B B:=⟨Pres.self B,λ_ h=> .inr h⟩
theorem SubB.mine {B:Base} (h:SubB B W) (J:B.mine b):W.mine b:=by
 rcases J with J|J
 ·exact .inl (zac h.1.size J)
 ·exact h.2 b J
theorem SubB.trans {C B:Base} (h:SubB C B) (k:SubB B W):SubB C W:=⟨k.pres h.1,λb J=>k.mine (h.2 b J)⟩
abbrev _root_.zdQ:=Nat->List SV
def MapOK (β:zdM) (b:Nat) (w:World) (k:BK) (get:zdQ):Prop:=match k with
 | .mpL=> ∃es:Array MapEntry,w.heap[b]? =some (.map es es.size)/\es.size<=64/\(∀e,e<es.size-> ∃k v,get e= [k,v]/\es[e]? =some {key:=k.conc β,val:=v.conc β,born:=e})/\ ∀e,es.size<=e->get e= []
 | .mpI=> ∃L,w.heap[b]? =some (.map (dS false 0 L).toArray L.length)/\ ∀k,iG (get k)=d9 L k
 | .mpB=> ∃L,w.heap[b]? =some (.map (dS true 0 L).toArray L.length)/\(∀k,su (get k)=(d9 L k !=0))/\(∀p∈L,p.2=1)/\(L.map (·.1)).Nodup
 | .itL=> ∃(m since c0 clock:Nat) (seen:Array Nat) (es:Array MapEntry),w.heap[b]? =some (.mapIter (some m) since seen c0)/\w.heap[m]? =some (.map es clock)/\(∀x∈es.toList,x.born<since)/\since<=c0/\since<=clock/\es.size<=64/\
   (∀e,e<es.size-> ∃k v,get (e+1)= [.val (.bool (!seen.contains e)),k,v]/\es[e]? =some {key:=k.conc β,val:=v.conc β,born:=e})/\(∀e,es.size<=e->get (e+1)= [])/\
   (get 0= []\/ ∃(s':Array Nat) (j:Nat) (k v:SV),seen=s'.push j/\c0=clock/\get 0= [k,v]/\es[j]? =some {key:=k.conc β,val:=v.conc β,born:=j})
 | .itK=> ∃(m since c0:Nat) (seen:Array Nat) (L:List (Nat×Int)),w.heap[b]? =some (.mapIter (some m) since seen c0)/\w.heap[m]? =some (.map (dS true 0 L).toArray L.length)/\since=L.length/\since<=c0/\(∀p∈L,p.2=1)/\(L.map (·.1)).Nodup/\
   (∀k,su (get (k+1))=true↔ ∃i,(L.map (·.1))[i]? =some k/\seen.contains i=false)/\
   (get 0= []\/ ∃(s':Array Nat) (j k:Nat),seen=s'.push j/\c0=L.length/\(L.map (·.1))[j]? =some k/\get 0= [.val (.int .i64 k), .val (.bool true)])
 |_=>True
variable {k:BK}
theorem BK.lst_map (h:k.lst=true):k.map=true:=by cases k<;>first|rfl|cases h
theorem BK.it_map (h:k.it=true):k.map=true:=by cases k<;>first|rfl|cases h
structure MapsOK (W0:Base) (bl:Nat->Option Blk) (β:Nat->Loc) (w:World):Prop where
 ok: ∀id B,bl id=some B->B.kd.map=true->B.n=0/\(β id).nil=false/\W0.mine (β id).blk/\MapOK β (β id).blk w B.kd B.get
 inj: ∀id id' B B',bl id=some B->bl id'=some B'->B.kd.map=true->B'.kd.map=true->(β id).blk=(β id').blk->id=id'
 live: ∀(id:Nat) (B:Blk) (e:Nat) (s:SV),bl id=some B->B.kd.lst=true->s∈B.get e->Live bl s
 off: ∀id B,bl id=some B->B.kd.it=true->(β id).off=0
variable {get:zdQ}
theorem MapOK.heap (h:MapOK β b w k get) (J:k.map=true):(k.it=false/\ ∃es c,w.heap[b]? =some (.map es c))\/(k.it=true/\ ∃m s n c,w.heap[b]? =some (.mapIter m s n c)):=by
 cases k with
 |mpL=>obtain⟨es,h,_⟩:=h;exact .inl ⟨rfl,_,_,h⟩
 |mpI=>obtain⟨L,h,_⟩:=h;exact .inl ⟨rfl,_,_,h⟩
 |mpB=>obtain⟨L,h,_⟩:=h;exact .inl ⟨rfl,_,_,h⟩
 |itL=>obtain⟨_,_,_,_,_,_,h,_⟩:=h;exact .inr ⟨rfl,_,_,_,_,h⟩
 |itK=>obtain⟨_,_,_,_,_,h,_⟩:=h;exact .inr ⟨rfl,_,_,_,_,h⟩
 |_=>cases J
theorem MapOK.cellN (h:MapOK β b w k get) (V:k.map=true) (j:Nat):w.cell? ⟨b,j,none⟩=none:=by
 rcases h.heap V with ⟨_,es,c,J⟩|⟨_,m,s,n,c,J⟩<;>simp[World.cell?,J]
def GetEq (k:BK) (get get':zdQ):Prop:=match k with
 | .mpI=> ∀e,iG (get e)=iG (get' e)
 | .mpB=> ∀e,su (get e)=su (get' e)
 | .itK=>(∀e,su (get (e+1))=su (get' (e+1)))/\(get' 0= []\/get' 0=get 0)
 | .itL=>(∀e,get (e+1)=get' (e+1))/\(get' 0= []\/get' 0=get 0)
 |_=> ∀e,get e=get' e
theorem GetEq.refl (k:BK) (get:zdQ):GetEq k get get:=by cases k<;>first|exact λ_=>rfl|exact⟨λ_=>rfl, .inr rfl⟩
variable {β':zdM} {get':zdQ}
theorem MapOK.to (h:MapOK β b w k get) (hw:w'.heap[b]? =w.heap[b]?) (hg:GetEq k get get')
 (hi:k.it=true-> ∀(m:Nat) es c,w.heap[m]? =some (Obj.map es c)->w'.heap[m]? =w.heap[m]?) (Z:k.lst=true-> ∀e s,s∈get' e->s.conc β'=s.conc β):MapOK β' b w' k get':=by
 cases k with
 |mpL=>
  obtain⟨es,h1,h2,h3,h4⟩:=h;refine⟨es,by rw[hw];exact h1,h2,λe Y=> ?_,λe Y=>by rw[<-hg];exact h4 e Y⟩;obtain⟨k,v,k1,k2⟩:=h3 e Y;exact⟨k,v,by rw[<-hg];exact k1,by rw[Z rfl e k (by rw[<-hg];simp[k1]),Z rfl e v (by rw[<-hg];simp[k1])];exact k2⟩
 |mpI=>obtain⟨L,h1,h2⟩:=h;exact⟨L,by rw[hw];exact h1,λk=>by rw[<-hg];exact h2 k⟩
 |mpB=>obtain⟨L,h1,h2,h3⟩:=h;exact⟨L,by rw[hw];exact h1,λk=>by rw[<-hg];exact h2 k,h3⟩
 |itL=>
  obtain⟨m,J,c0,V,seen,es,h1,h2,h3,h4,h5,h6,h7,h8,h9⟩:=h;refine⟨m,J,c0,V,seen,es,by rw[hw];exact h1,by rw[hi rfl _ _ _ h2];exact h2,h3,h4,h5,h6,λe Y=> ?_,λe Y=>by rw[<-hg.1];exact h8 e Y, ?_⟩
  ·obtain⟨k,v,k1,k2⟩:=h7 e Y;exact⟨k,v,by rw[<-hg.1];exact k1,by rw[Z rfl (e+1) k (by rw[<-hg.1];simp[k1]),Z rfl (e+1) v (by rw[<-hg.1];simp[k1])];exact k2⟩
  ·rcases hg.2 with h0|h0
   ·exact .inl h0
   ·rcases h9 with h9|⟨s',j,k,v,k1,k2,k3,k4⟩
    ·exact .inl (by rw[h0];exact h9)
    ·exact .inr ⟨s',j,k,v,k1,k2,by rw[h0];exact k3,by rw[Z rfl 0 k (by rw[h0];simp[k3]),Z rfl 0 v (by rw[h0];simp[k3])];exact k4⟩
 |itK=>
  obtain⟨m,J,c0,seen,L,h1,h2,h3,h4,h5,h6,h7,h8⟩:=h;refine⟨m,J,c0,seen,L,by rw[hw];exact h1,by rw[hi rfl _ _ _ h2];exact h2,h3,h4,h5,h6,λk=>by rw[<-hg.1];exact h7 k, ?_⟩;rcases hg.2 with hg|hg
  ·exact .inl hg
  ·rw[hg];exact h8
 |_=>trivial
variable {W0:Base} {bl:zdP}
theorem MapsOK.to {bl':zdP} (h:MapsOK W0 bl β w)
 (V: ∀id B,bl' id=some B->B.kd.map=true->bl id=some B/\β' id=β id/\w'.heap[(β id).blk]? =w.heap[(β id).blk]?)
 (hl: ∀s,Live bl s->Live bl' s/\s.conc β'=s.conc β) (hi: ∀(m:Nat) es c,w.heap[m]? =some (Obj.map es c)->w'.heap[m]? =w.heap[m]?):MapsOK W0 bl' β' w' where
 ok id B hB Y:=by
  obtain⟨h1,h2,h3⟩:=V id B hB Y;obtain⟨k1,k2,k3,k4⟩:=h.ok id B h1 Y;rw[h2];exact⟨k1,k2,k3,k4.to h3 (GetEq.refl _ _) (λ_=>hi) λJ e s hs=>(hl s (h.live id B e s h1 J hs)).2⟩
 inj id id' B B' hB hB' Y Z he:=by
  obtain⟨h1,h2,_⟩:=V id B hB Y;obtain⟨k1,k2,_⟩:=V id' B' hB' Z;rw[h2,k2] at he;exact h.inj id id' B B' h1 k1 Y Z he
 live id B e s hB J hs:=(hl s (h.live id B e s (V id B hB (BK.lst_map J)).1 J hs)).1
 off id B hB J:=by
  obtain⟨h1,h2,_⟩:=V id B hB (BK.it_map J);rw[h2];exact h.off id B h1 J
structure BC (W0:Base) (bl:Nat->Option Blk) (β:Nat->Loc) (w:World):Prop where
 below:Pres W0 w
 blk: ∀id B,bl id=some B->B.kd≠ .gone->BlkOK β id B w
 own: ∀id B,bl id=some B->B.kd= .own->(β id).nil=false->W0.mine (β id).blk
 old: ∀id B,bl id=some B->B.kd= .old->(β id).nil=false->W0.out (β id).blk
 inj: ∀id id' B B',bl id=some B->bl id'=some B'->B.kd= .own->B'.kd= .own->(β id).nil=false->(β id').nil=false->(β id).blk=(β id').blk->id=id'
 live: ∀(id:Nat) (B:Blk) (e o:Nat) (s:SV),bl id=some B->B.kd≠ .gone->e<B.n->(B.get e)[o]? =some s->Live bl s
 maps:MapsOK W0 bl β w
def upd (bl:zdP) (id:Nat) (B:Blk):zdP:=λi=>bif Nat.beq i id then some B else bl i
def gp (β:zdM) (id:Nat) (l:Loc):zdM:=λi=>bif Nat.beq i id then l else β i
theorem BlkOK.lt_e (h:BlkOK β id B w) (J:e<B.n):(β id).blk<w.heap.size:=h.lt (h.not_nil J)
theorem az (bl:zdP) (id:Nat) (B:Blk):upd bl id B id=some B:=by simp[upd]
variable {i:Nat}
theorem ak (h:i≠id):upd bl id B i=bl i:=by
 have:Nat.beq i id=false:=by
  cases hh:Nat.beq i id with
  |false=>rfl
  |true=>exact absurd (zab hh) h
 simp[upd,this]
theorem aA (β:zdM) (id:Nat) (l:Loc):gp β id l id=l:=by simp[gp]
variable {l:Loc}
theorem aC (h:i≠id):gp β id l i=β i:=by
 have:Nat.beq i id=false:=by
  cases hh:Nat.beq i id with
  |false=>rfl
  |true=>exact absurd (zab hh) h
 simp[gp,this]
theorem BY (h:bl i≠none):upd bl id B i≠none:=by
 by_cases hi:i=id
 ·subst hi;rw[az];simp
 ·rw[ak hi];exact h
theorem Live.upd (h:Live bl s):Live (upd bl id B) s:=λi hi=>BY (h i hi)
theorem Live.conc (h:Live bl s) (hid:bl id=none):s.conc (gp β id l)=s.conc β:=
 SV.conc_congr s λi hi=>aC λe=>h i hi (e▸hid)
variable {cs:zdN}
theorem Live.concs (h: ∀s∈cs,Live bl s) (hid:bl id=none):SV.concs (gp β id l) cs=SV.concs β cs:=
 SV.concs_congr cs λi hi=>aC λe=>by
  obtain⟨s,J,hi⟩:=SV.mem_idss.1 hi;exact h s J i hi (e▸hid)
theorem BC.step (h:BC W0 bl β w) (J:Below w.heap.size w w'):BC W0 bl β w' where
 below:=h.below.step J
 blk id B hB hg:=by
  have k:=h.blk id B hB hg
  exact⟨k.sz,λh=>zam (k.lt h) J.size,k.le,k.len,λj V=>by rw[J.cell (p:=⟨_,_,none⟩) (k.lt_cap V).2];exact k.ex j V,
   λhr j V=>by rw[J.frozen (p:=⟨_,_,none⟩) (k.lt_cap V).2];exact k.fr hr j V,λe he o s Z=>by rw[J.cell (p:=addr β id e o) (k.lt_e he)];exact k.val e he o s Z,k.nil,k.nn⟩
 own:=h.own
 old:=h.old
 inj:=h.inj
 live:=h.live
 maps:=h.maps.to (λid B hB Y=>⟨hB,rfl,J.block _ ((h.blk id B hB (by intro e;rw[e] at Y;cases Y)).lt (h.maps.ok id B hB Y).2.1)⟩) (λs Z=>⟨Z,rfl⟩) λm es c Y=>J.block m (zaq.1 Y).1
variable {L:Loc}
theorem BC.allocG (h:BC W0 bl β w) (hid:bl id=none)
 (hro:B.kd= .own) (hlen: ∀e,e<B.n->(B.get e).length=B.sz) (hlive: ∀(e o:Nat) (s:SV),e<B.n->(B.get e)[o]? =some s->Live bl s)
 (hb:Below w.heap.size w w') (hsz:L.sz=B.sz) (hmine:W0.mine L.blk) (hnew: ∀i C,bl i=some C->C.kd= .own->(β i).nil=false->(β i).blk≠L.blk) (hlt:L.blk<w'.heap.size) (hcap:B.n<=L.cap) (hnil:L.nil=true->L.cap=0) (hnn:B.nn=true->L.nil=false)
 (hex: ∀j,j<L.cap*B.sz->(w'.cell? ⟨L.blk,L.off+j,none⟩).isSome=true) (hfr: ∀j,j<L.cap*B.sz->w'.frozen? ⟨L.blk,L.off+j,none⟩=false)
 (hval: ∀(e o:Nat) (s:SV),e<B.n->(B.get e)[o]? =some s->w'.cell? ⟨L.blk,L.off+e*B.sz+o,none⟩=some (s.conc β)):
 BC W0 (upd bl id B) (gp β id L) w':=by
 have k:=h.step hb
 have hmap:MapsOK W0 (upd bl id B) (gp β id L) w':=k.maps.to (λi C J hm=>by
  have hi:i≠id:=by
   rintro rfl;rw[az] at J;obtain rfl:B=C:=by simpa using J
   rw[hro] at hm;cases hm
  rw[ak hi] at J
  exact⟨J,aC hi,rfl⟩) (λs hs=>⟨hs.upd,hs.conc hid⟩) λ_ _ _ _=>rfl
 refine⟨k.below, ?_, ?_, ?_, ?_, ?_,hmap⟩
 ·intro i C J hgC;by_cases hi:i=id
  ·subst hi;rw[az] at J;obtain rfl:B=C:=by simpa using J
   refine⟨by rw[aA];exact hsz,λ_=>by rw[aA];exact hlt,by rw[aA];exact hcap,hlen,by rw[aA];exact hex,λ_=>by rw[aA];exact hfr, ?_,by rw[aA];exact hnil,by rw[aA];exact hnn⟩;intro e he o s hs;rw[show addr (gp β i L) i e o=⟨L.blk,L.off+e*B.sz+o,none⟩ by simp[addr,aA,hsz]];rw[(hlive e o s he hs).conc hid];exact hval e o s he hs
  ·rw[ak hi] at J;have q:=k.blk i C J hgC;have e1:gp β id L i=β i:=aC hi;refine⟨by rw[e1];exact q.sz,by rw[e1];exact q.lt,by rw[e1];exact q.le,q.len,by rw[e1];exact q.ex,by rw[e1];exact q.fr, ?_,by rw[e1];exact q.nil,by rw[e1];exact q.nn⟩;intro e he o s hs;rw[(h.live i C e o s J hgC he hs).conc hid];have:=q.val e he o s hs;simpa [addr,e1] using this
 ·intro i C J hk V;by_cases hi:i=id
  ·subst hi;rw[aA];exact hmine
  ·rw[ak hi] at J;rw[aC hi] at V ⊢;exact h.own i C J hk V
 ·intro i C J hk V;by_cases hi:i=id
  ·subst hi;rw[az] at J;obtain rfl:B=C:=by simpa using J
   rw[hro] at hk;cases hk
  ·rw[ak hi] at J;rw[aC hi] at V ⊢;exact h.old i C J hk V
 ·intro i i' C C' J hC' hr hr' V Z heq;by_cases hi:i=id<;>by_cases Y:i'=id
  ·rw[hi,Y]
  ·exfalso;subst hi;rw[ak Y] at hC';rw[aA,aC Y] at heq;rw[aC Y] at Z;exact hnew i' C' hC' hr' Z heq.symm
  ·exfalso;subst Y;rw[ak hi] at J;rw[aA,aC hi] at heq;rw[aC hi] at V;exact hnew i C J hr V heq
  ·rw[ak hi] at J;rw[ak Y] at hC';rw[aC hi,aC Y] at heq;rw[aC hi] at V;rw[aC Y] at Z;exact h.inj i i' C C' J hC' hr hr' V Z heq
 ·intro i C e o s J hg he hs;by_cases hi:i=id
  ·subst hi;rw[az] at J;obtain rfl:B=C:=by simpa using J
   exact(hlive e o s he hs).upd
  ·rw[ak hi] at J;exact(h.live i C e o s J hg he hs).upd
theorem BC.allocW (h:BC W0 bl β w) (hid:bl id=none)
 (hro:B.kd= .own) (Z: ∀e,e<B.n->(B.get e).length=B.sz) (J: ∀(e o:Nat) (s:SV),e<B.n->(B.get e)[o]? =some s->Live bl s)
 (hb:Below w.heap.size w w') (hsz:L.sz=B.sz) (V:w.heap.size<=L.blk) (hlt:L.blk<w'.heap.size) (Y:B.n<=L.cap) (hnil:L.nil=true->L.cap=0) (hnn:B.nn=true->L.nil=false)
 (hex: ∀j,j<L.cap*B.sz->(w'.cell? ⟨L.blk,L.off+j,none⟩).isSome=true) (hfr: ∀j,j<L.cap*B.sz->w'.frozen? ⟨L.blk,L.off+j,none⟩=false)
 (hval: ∀(e o:Nat) (s:SV),e<B.n->(B.get e)[o]? =some s->w'.cell? ⟨L.blk,L.off+e*B.sz+o,none⟩=some (s.conc β)):
 BC W0 (upd bl id B) (gp β id L) w'  :=
 h.allocG hid hro Z J hb hsz (.inl (zac h.below.size V)) (λi C hC hr hni e=>by
  have:=(h.blk i C hC (by rw[hr];simp)).lt hni
  omega) hlt Y hnil hnn hex hfr hval
theorem BC.alloc (h:BC W0 bl β w) (hid:bl id=none)
 (hro:B.kd= .own) (Y: ∀e,e<B.n->(B.get e).length=B.sz) (J: ∀(e o:Nat) (s:SV),e<B.n->(B.get e)[o]? =some s->Live bl s)
 (cs:zdN) (Z:cs.length=B.n*B.sz) (V: ∀(e o:Nat) (s:SV),e<B.n->(B.get e)[o]? =some s->cs[e*B.sz+o]? =some s) (ty:TypeId):
 BC W0 (upd bl id B) (gp β id ⟨w.heap.size,0,B.sz,B.n,false⟩) (w.alloc (.cells (SV.concs β cs).toArray ty)):=by
 have hlc:(SV.concs β cs).length=B.n*B.sz:=by rw[SV.concs_eq];simp[Z]
 refine h.allocW hid hro Y J ((zdG _ _).alloc (za0 _) _) rfl (za0 _) (by simp) (za0 _) (λh=>by cases h) (λ_=>rfl) ?_ ?_ ?_
 ·intro j hj;simp only[za7];rw[World.cell?_alloc_new];simp[hlc];simpa using hj
 ·intro j hj;simp only[za7];exact World.frozen?_alloc_new _ _ _ _
 ·intro e o s he hs;simp only[za7];rw[World.cell?_alloc_new];have:=V e o s he hs;simp[SV.concs_eq,this]
theorem J6 (bl:zdP) (i:Nat) (X Y:Blk):upd (upd bl i X) i Y=upd bl i Y:=by
 funext j
 by_cases h:j=i
 ·subst h;rw[az,az]
 ·rw[ak h,ak h,ak h]
variable {X:Blk}
theorem BC.kill (h:BC W0 bl β w) (i:Nat) (hX:X.kd= .gone):BC W0 (upd bl i X) β w:=by
 have F: ∀j C,upd bl i X j=some C->C.kd≠ .gone->j≠i/\bl j=some C:=by
  intro j C J hg;by_cases h1:j=i
  ·subst h1;rw[az] at J;simp only[za1] at J;rw[<-J] at hg;exact absurd hX hg
  ·rw[ak h1] at J;exact⟨h1,J⟩
 refine⟨h.below,λj C J hg=>h.blk j C (F j C J hg).2 hg,λj C J V=>h.own j C (F j C J (by rw[V];simp)).2 V,λj C J V=>h.old j C (F j C J (by rw[V];simp)).2 V,
  λj k C D J hD Y Z=>h.inj j k C D (F j C J (by rw[Y];simp)).2 (F k D hD (by rw[Z];simp)).2 Y Z,λj C e o s J hg he hs=>(h.live j C e o s (F j C J hg).2 hg he hs).upd,
  h.maps.to (λj C J hm=>⟨(F j C J (by intro e;rw[e] at hm;cases hm)).2,rfl,rfl⟩) (λs hs=>⟨hs.upd,rfl⟩) λ_ _ _ _=>rfl⟩
theorem BC.reborn (h:BC W0 bl β w) (hB:bl i=some B) (hro:B.kd= .own) (hid:bl id=none) (hX:X.kd= .gone):
 BC W0 (upd (upd bl i X) id B) (gp β id (β i)) w:=by
 have hne:i≠id:=λe=>by rw[e,hid] at hB;cases hB
 have hng:B.kd≠ .gone:=by rw[hro];simp
 have F: ∀j C,upd (upd bl i X) id B j=some C->C.kd≠ .gone->(j=id/\C=B)\/(j≠id/\j≠i/\bl j=some C):=by
  intro j C J hg;by_cases h1:j=id
  ·subst h1;rw[az] at J;exact .inl ⟨rfl,by simpa using J.symm⟩
  ·rw[ak h1] at J;by_cases h2:j=i
   ·subst h2;rw[az] at J;simp only[za1] at J;rw[<-J] at hg;exact absurd hX hg
   ·rw[ak h2] at J;exact .inr ⟨h1,h2,J⟩
 have hl: ∀s,Live bl s->Live (upd (upd bl i X) id B) s:=λs hs=>hs.upd.upd
 have hmap:MapsOK W0 (upd (upd bl i X) id B) (gp β id (β i)) w:=h.maps.to (λj C J hm=>by
  rcases F j C J (by intro e;rw[e] at hm;cases hm) with ⟨_,rfl⟩|⟨h1,_,h3⟩
  ·rw[hro] at hm;cases hm
  ·exact⟨h3,aC h1,rfl⟩) (λs hs=>⟨hl s hs,hs.conc hid⟩) λ_ _ _ _=>rfl
 refine⟨h.below, ?_, ?_, ?_, ?_, ?_,hmap⟩
 ·intro j C J hg;rcases F j C J hg with ⟨rfl,rfl⟩|⟨h1,h2,h3⟩
  ·have q:=h.blk i C hB hng;have e1:gp β j (β i) j=β i:=aA _ _ _;refine⟨by rw[e1];exact q.sz,by rw[e1];exact q.lt,by rw[e1];exact q.le,q.len,by rw[e1];exact q.ex,by rw[e1];exact q.fr, ?_,by rw[e1];exact q.nil,by rw[e1];exact q.nn⟩;intro e he o s hs;rw[(h.live i C e o s hB hng he hs).conc hid];have:=q.val e he o s hs;simpa [addr,e1] using this
  ·have q:=h.blk j C h3 hg;have e1:gp β id (β i) j=β j:=aC h1;refine⟨by rw[e1];exact q.sz,by rw[e1];exact q.lt,by rw[e1];exact q.le,q.len,by rw[e1];exact q.ex,by rw[e1];exact q.fr, ?_,by rw[e1];exact q.nil,by rw[e1];exact q.nn⟩;intro e he o s hs;rw[(h.live j C e o s h3 hg he hs).conc hid];have:=q.val e he o s hs;simpa [addr,e1] using this
 ·intro j C J hk V;rcases F j C J (by rw[hk];simp) with ⟨rfl,rfl⟩|⟨h1,h2,h3⟩
  ·rw[aA] at V ⊢;exact h.own i _ hB hro V
  ·rw[aC h1] at V ⊢;exact h.own j C h3 hk V
 ·intro j C J hk V;rcases F j C J (by rw[hk];simp) with ⟨rfl,rfl⟩|⟨h1,h2,h3⟩
  ·rw[hro] at hk;cases hk
  ·rw[aC h1] at V ⊢;exact h.old j C h3 hk V
 ·intro j k C D J hD hkC hkD V Z Y;rcases F j C J (by rw[hkC];simp) with ⟨rfl,rfl⟩|⟨h1,h2,h3⟩<;>rcases F k D hD (by rw[hkD];simp) with ⟨rfl,rfl⟩|⟨g1,g2,g3⟩
  ·rfl
  ·rw[aA,aC g1] at Y;rw[aA] at V;rw[aC g1] at Z;exact absurd (h.inj i k _ _ hB g3 hro hkD V Z Y).symm g2
  ·rw[aA,aC h1] at Y;rw[aA] at Z;rw[aC h1] at V;exact absurd (h.inj j i _ _ h3 hB hkC hro V Z Y) h2
  ·rw[aC h1,aC g1] at Y;rw[aC h1] at V;rw[aC g1] at Z;exact h.inj j k _ _ h3 g3 hkC hkD V Z Y
 ·intro j C e o s J hg he hs;rcases F j C J hg with ⟨rfl,rfl⟩|⟨h1,h2,h3⟩
  ·exact hl s (h.live i _ e o s hB hng he hs)
  ·exact hl s (h.live j C e o s h3 hg he hs)
def gZ (l:zdN) (o:Nat) (cs:zdN):zdN:=l.take o++cs++l.drop (o+cs.length)
variable {o:Nat}
theorem jd {l:zdN} (h:o+cs.length<=l.length):(gZ l o cs).length=l.length:=by
 simp[gZ];omega
theorem jR {l:zdN} (h:o+cs.length<=l.length) (j:Nat):(gZ l o cs)[j]? =if o<=j/\j<o+cs.length then cs[j - o]? else l[j]? :=by
 unfold gZ;by_cases h1:j<o
 ·rw[if_neg (by omega),za5,zbB (by simp;omega),zcc h1]
 ·by_cases h2:j<o+cs.length
  ·rw[if_pos (by omega),zbB (by simp;omega),zbY (by simp;omega)]
   congr 1
   simp;omega
  ·rw[if_neg (by omega),zbY (by simp;omega),zcy]
   congr 1
   simp;omega
def Blk.put (B:Blk) (e o:Nat) (cs:zdN):Blk:={B with get:=λi=>bif Nat.beq i e then gZ (B.get i) o cs else B.get i}
theorem Blk.put_get (B:Blk) (e o:Nat) (cs:zdN) (i:Nat):(B.put e o cs).get i=if i=e then gZ (B.get i) o cs else B.get i:=by
 by_cases h:i=e
 ·subst h;simp[Blk.put]
 ·have:Nat.beq i e=false:=by
   cases hh:Nat.beq i e with
   |false=>rfl
   |true=>exact absurd (zab hh) h
  simp[Blk.put,this,h]
theorem jS {sz n:Nat} (J:e<n) (V:o<sz):e*sz+o<n*sz:=by
 have:(e+1)*sz<=n*sz:=zbm _ J;rw[zaG] at this;omega
theorem kN: ∀(vs:zdO) (b k:Nat) (w:World),(w.setCells b k vs).heap.size=w.heap.size/\(∀i,i≠b->(w.setCells b k vs).heap[i]? =w.heap[i]?)/\(w.setCells b k vs).os=w.os/\(w.setCells b k vs).tape=w.tape/\(w.setCells b k vs).output=w.output
 | [],b,k,w=>⟨rfl,λ_ _=>rfl,rfl,rfl,rfl⟩
 |v::vs,b,k,w=>by
  rw[World.setCells];obtain⟨h1,h2,h3,h4,h5⟩:=kN vs b (k+1) (w.setCell ⟨b,k,none⟩ v);exact⟨by rw[h1];simp,λi hi=>by rw[h2 i hi,Below.heap_setCell _ _ _ _ hi],h3,h4,h5⟩
theorem BC.writeG (h:BC W0 bl β w) (hB:bl id=some B) (hro:B.kd= .own)
 {k:Nat} {vs:zdO} (hk:k+vs.length<=(β id).cap*B.sz) {B':Blk} (e1:B'.sz=B.sz) (e2:B'.kd= .own) (e3:B'.n<=(β id).cap) (e4:B'.nn=true->(β id).nil=false)
 (hlen: ∀e,e<B'.n->(B'.get e).length=B.sz) (hlive: ∀(e o:Nat) (s:SV),e<B'.n->(B'.get e)[o]? =some s->Live bl s)
 (hval: ∀(e o:Nat) (s:SV),e<B'.n->(B'.get e)[o]? =some s->(k<=e*B.sz+o/\e*B.sz+o<k+vs.length/\vs[e*B.sz+o - k]? =some (s.conc β))\/((e*B.sz+o<k\/k+vs.length<=e*B.sz+o)/\e<B.n/\(B.get e)[o]? =some s)):
 BC W0 (upd bl id B') β (w.setCells (β id).blk ((β id).off+k) vs):=by
 have hng:B.kd≠ .gone:=by rw[hro];simp
 have q:=h.blk id B hB hng;cases hnl:(β id).nil with
 |true=>
  have hc:=q.nil hnl;rw[hc] at hk e3;have hv:vs= []:=zau (by omega);subst hv;have hBn:B.n=0:=by have:=q.le;omega
  have hn0:B'.n=0:=by omega
  refine⟨h.below, ?_, ?_, ?_, ?_, ?_,h.maps.to (λi C J Z=>by
   have hi:i≠id:=by
    rintro rfl;rw[az] at J;obtain rfl:B'=C:=by simpa using J
    rw[e2] at Z;cases Z
   rw[ak hi] at J
   exact⟨J,rfl,rfl⟩) (λs hs=>⟨hs.upd,rfl⟩) λ_ _ _ _=>rfl⟩
  ·intro i C J hg;by_cases hi:i=id
   ·subst hi;rw[az] at J;obtain rfl:B'=C:=by simpa using J
    exact⟨by rw[e1];exact q.sz,q.lt,by omega,by rw[e1];exact hlen,by rw[e1];exact q.ex,λ_=>by rw[e1];exact q.fr hro,λe he=>by omega,q.nil,λhh=>(by rw[e4 hh] at hnl;cases hnl)⟩
   ·rw[ak hi] at J;exact h.blk i C J hg
  ·intro i C J hk' hn';by_cases hi:i=id
   ·subst hi;rw[hnl] at hn';cases hn'
   ·rw[ak hi] at J;exact h.own i C J hk' hn'
  ·intro i C J hk' hn';by_cases hi:i=id
   ·subst hi;rw[hnl] at hn';cases hn'
   ·rw[ak hi] at J;exact h.old i C J hk' hn'
  ·intro i j C D J hD hkC hkD hn1 hn2 heq;have f: ∀i,(β i).nil=false->i≠id:=λi hi he=>by rw[he,hnl] at hi;cases hi
   rw[ak (f i hn1)] at J;rw[ak (f j hn2)] at hD;exact h.inj i j C D J hD hkC hkD hn1 hn2 heq
  ·intro i C e o s J hg he hs;by_cases hi:i=id
   ·subst hi;rw[az] at J;obtain rfl:B'=C:=by simpa using J
    omega
   ·rw[ak hi] at J;exact(h.live i C e o s J hg he hs).upd
 |false=>
 have hloc:=h.own id B hB hro hnl;obtain⟨Y,hblock,hos⟩:=kN vs (β id).blk ((β id).off+k) w;have hcell: ∀j,j<vs.length->(w.cell? ⟨(β id).blk,(β id).off+k+j,none⟩).isSome=true:=λj V=>by
  have:=q.ex (k+j) (by omega);rwa[show (β id).off+k+j=(β id).off+(k+j) by omega]
 have hbel:Below (β id).blk w (w.setCells (β id).blk ((β id).off+k) vs):=
  ⟨hos.1,hos.2.1,hos.2.2,by rw[Y];exact za0 _,λk hk=>hblock _ (by omega)⟩
 have hmap:MapsOK W0 (upd bl id B') β (w.setCells (β id).blk ((β id).off+k) (vs)):=h.maps.to (λi C J Z=>by
  have hi:i≠id:=by
   rintro rfl;rw[az] at J;obtain rfl:B'=C:=by simpa using J
   rw[show (B').kd= .own from e2] at Z;cases Z
  rw[ak hi] at J;refine⟨J,rfl, ?_⟩;have hcn:=λj=>(h.maps.ok i C J Z).2.2.2.cellN Z j;by_cases hb:(β i).blk=(β id).blk
  ·rw[hb] at hcn;cases hvs:(vs) with
   |nil=>rfl
   |cons v vs'=>
    have:=hcell 0 (by rw[hvs];simp);rw[hcn] at this;cases this
  ·exact hblock _ hb) (λs hs=>⟨hs.upd,rfl⟩) λm es c hm2=>by
  by_cases hb:m=(β id).blk
  ·subst hb;cases hvs:vs with
   |nil=>rfl
   |cons v vs'=>
    have:=hcell 0 (by rw[hvs];simp);simp[World.cell?,hm2] at this
  ·exact hblock _ hb
 refine⟨h.below.at hloc hos.1 hos.2.1 hos.2.2 Y hblock, ?_, ?_, ?_, ?_, ?_,hmap⟩
 ·intro i C J hgC;by_cases hi:i=id
  ·subst hi;rw[az] at J;obtain rfl:B'=C:=by simpa using J
   refine⟨by rw[e1];exact q.sz,by rw[Y];exact q.lt,e3,by rw[e1];exact hlen, ?_, ?_, ?_,q.nil,e4⟩
   ·intro j V;rw[e1] at V;by_cases hjj:k<=j/\j<k+vs.length
    ·have:=World.cell?_setCells_in (β i).blk vs ((β i).off+k) w hcell (j - k) (by omega);rw[show (β i).off+k+(j - k)=(β i).off+j by omega] at this;rw[this];rfl
    ·rw[World.cell?_setCells_out _ _ _ _ _ (λ_ _=>by simp only[];omega)];exact q.ex j V
   ·intro hr j V;rw[e1] at V;rw[World.frozen?_setCells];exact q.fr hro j V
   ·intro e he o s hs;have ho:o<B.sz:=by
     rcases zah o B.sz with h'|h'
     ·exact h'
     ·rw[zad (by rw[hlen e he];exact h')] at hs;cases hs
    rcases hval e o s he hs with ⟨h1,h2,h3⟩|⟨h1,h2,h3⟩
    ·have:=World.cell?_setCells_in (β i).blk vs ((β i).off+k) w hcell (e*B.sz+o - k) (by omega);rw[show (β i).off+k+(e*B.sz+o - k)=(β i).off+e*(β i).sz+o by rw[q.sz];omega] at this;unfold addr;rw[this];rw[zaa (by omega)] at h3;exact h3
    ·rw[World.cell?_setCells_out _ _ _ _ _ (λ_ _=>by
      simp only[addr];rw[q.sz]
      omega)]
     exact q.val e h2 o s h3
  ·rw[ak hi] at J;have p:=h.blk i C J hgC;by_cases Z:C.kd.map=true
   ·have hcn:=λj=>(h.maps.ok i C J Z).2.2.2.cellN Z j;have no: ∀j,¬j<(β i).cap*C.sz:=λj V=>by have:=p.ex j V;rw[hcn] at this;cases this
    have hn:=(h.maps.ok i C J Z).1;exact⟨p.sz,by rw[Y];exact p.lt,p.le,p.len,λj V=>absurd V (no j),λ_ j V=>absurd V (no j),λe he=>by omega,p.nil,p.nn⟩
   cases hni:(β i).nil with
   |true=>
    have hc:=p.nil hni;have hn0:C.n=0:=by have:=p.le;omega
    exact⟨p.sz,λh'=>absurd (hni.symm.trans h') (by decide),p.le,p.len,λj V=>by rw[hc] at V;omega,λ_ j V=>by rw[hc] at V;omega,λe he=>by omega,p.nil,p.nn⟩
   |false=>
   have hne:(β i).blk≠(β id).blk:=by
    intro heq;cases hr:C.kd with
    |mpL=>rw[hr] at Z;exact Z rfl
    |mpI=>rw[hr] at Z;exact Z rfl
    |mpB=>rw[hr] at Z;exact Z rfl
    |itL=>rw[hr] at Z;exact Z rfl
    |itK=>rw[hr] at Z;exact Z rfl
    |gone=>exact hgC hr
    |old=>exact absurd (heq▸hloc) (h.old i C J hr hni).1
    |own=>exact hi (h.inj i id C B J hB hr hro hni hnl heq)
   have hcc: ∀j,(w.setCells (β id).blk ((β id).off+k) vs).cell? ⟨(β i).blk,j,none⟩=w.cell? ⟨(β i).blk,j,none⟩:=λj=>
    World.cell?_setCells_out _ _ _ _ _ (λh _=>absurd h hne)
   refine⟨p.sz,by rw[Y];exact p.lt,p.le,p.len,λj V=>by rw[hcc];exact p.ex j V,λhr j V=>by rw[World.frozen?_setCells];exact p.fr hr j V,λe' he' o' s hs=> ?_,p.nil,p.nn⟩;unfold addr;rw[hcc];exact p.val e' he' o' s hs
 ·intro i C J hk hn1;by_cases hi:i=id
  ·subst hi;exact hloc
  ·rw[ak hi] at J;exact h.own i C J hk hn1
 ·intro i C J hk hn1;by_cases hi:i=id
  ·subst hi;rw[az] at J;obtain rfl:B'=C:=by simpa using J
   rw[e2] at hk;cases hk
  ·rw[ak hi] at J;exact h.old i C J hk hn1
 ·intro i i' C C' J hC' hr hr' hn1 hn2 heq;have f: ∀j D,upd bl id B' j=some D->D.kd= .own-> ∃D',bl j=some D'/\D'.kd= .own:=by
   intro j D hD hrD;by_cases V:j=id
   ·subst V;exact⟨B,hB,hro⟩
   ·rw[ak V] at hD;exact⟨D,hD,hrD⟩
  obtain⟨D,hD,hrD⟩:=f i C J hr;obtain⟨D',hD',hrD'⟩:=f i' C' hC' hr';exact h.inj i i' D D' hD hD' hrD hrD' hn1 hn2 heq
 ·intro i C e' o' s J hg he' hs;refine Live.upd ?_;by_cases hi:i=id
  ·subst hi;rw[az] at J;obtain rfl:B'=C:=by simpa using J
   exact hlive e' o' s he' hs
  ·rw[ak hi] at J;exact h.live i C e' o' s J hg he' hs
theorem BC.write (h:BC W0 bl β w) (hB:bl id=some B) (hro:B.kd= .own)
 (he:e<B.n) (ho:o+cs.length<=B.sz) (Y: ∀s∈cs,Live bl s):
 BC W0 (upd bl id (B.put e o cs)) β (w.setCells (β id).blk ((β id).off+e*(β id).sz+o) (SV.concs β cs)):=by
 have Z:B.kd≠ .gone:=by rw[hro];simp
 have q:=h.blk id B hB Z;have hl:=q.len e he;have V:(SV.concs β cs).length=cs.length:=by rw[SV.concs_eq];simp
 have up: ∀{a b:Nat},a<b->a*B.sz+B.sz<=b*B.sz:=λ{a b} hab=>by rw[<-zcf];exact zbm _ hab
 have:=q.le;have u0:=up (show e<(β id).cap by omega);rw[q.sz,zbr];refine h.writeG hB hro (B':=B.put e o cs) (by rw[V];omega) rfl hro q.le q.nn (λi hi=> ?_) (λi j s hi J=> ?_) (λi j s hi J=> ?_)
 ·rw[Blk.put_get];split
  ·rw[jd (by subst i;omega)];exact q.len i hi
  ·exact q.len i hi
 ·rw[Blk.put_get] at J;split at J
  ·rw[jR (by subst i;omega)] at J;split at J
   ·exact Y s (zal J)
   ·exact h.live id B i j s hB Z hi J
  ·exact h.live id B i j s hB Z hi J
 ·rw[Blk.put_get] at J;rw[V];split at J
  ·rename_i hie;subst hie;rw[jR (by omega)] at J;split at J
   ·refine .inl ⟨by omega,by omega, ?_⟩;rw[show i*B.sz+j - (i*B.sz+o)=j - o by omega,SV.concs_eq,zaL,J];rfl
   ·exact .inr ⟨by omega,hi,J⟩
  ·have hj:j<B.sz:=by
    have:=(zaV.1 J).1;rwa[q.len i hi] at this
   refine .inr ⟨?_,hi,J⟩;rcases zah i e with c|c
   ·have:=up c;omega
   ·have:=up (show e<i by omega);omega
variable {kd:BK}
theorem BC.newObj (h:BC W0 bl β w) (hid:bl id=none) (hk:kd.map=true) {ob:Obj}
 (hok:MapOK (gp β id ⟨w.heap.size,0,0,0,false⟩) w.heap.size (w.alloc ob) kd get) (hlv:kd.lst=true-> ∀e s,s∈get e->Live bl s):
 BC W0 (upd bl id {n:=0,sz:=0,get:=get,kd:=kd}) (gp β id ⟨w.heap.size,0,0,0,false⟩) (w.alloc ob):=by
 have k:=h.step ((zdG w.heap.size w).alloc (za0 _) ob);have hsz:(w.alloc ob).heap.size=w.heap.size+1:=by simp[World.alloc_eq]
 have F: ∀i C,upd bl id {n:=0,sz:=0,get:=get,kd:=kd} i=some C->(i=id/\C={n:=0,sz:=0,get:=get,kd:=kd})\/(i≠id/\bl i=some C):=by
  intro i C J;by_cases hi:i=id
  ·subst hi;rw[az] at J;exact .inl ⟨rfl,by simpa using J.symm⟩
  ·rw[ak hi] at J;exact .inr ⟨hi,J⟩
 have nk: ∀{K:BK},K.map=false->kd≠K:=λhK e=>by rw[e,hK] at hk;cases hk
 refine⟨k.below, ?_, ?_, ?_, ?_, ?_, ?_, ?_, ?_, ?_⟩
 ·intro i C J hg;rcases F i C J with ⟨rfl,rfl⟩|⟨hi,J⟩
  ·have e1:gp β i (⟨w.heap.size,0,0,0,false⟩:Loc) i=⟨w.heap.size,0,0,0,false⟩:=aA _ _ _;refine⟨by rw[e1],λ_=>by rw[e1,hsz];exact zcz _,zaA _,λe Y=>absurd Y (zbn _),λj Z=>by rw[e1] at Z;simp at Z,λ_ j Z=>by rw[e1] at Z;simp at Z,λe Y=>absurd Y (zbn _),λh=>(by rw[e1] at h;cases h),λ_=>by rw[e1]⟩
  ·have q:=k.blk i C J hg;have e1:gp β id (⟨w.heap.size,0,0,0,false⟩:Loc) i=β i:=aC hi;refine⟨by rw[e1];exact q.sz,by rw[e1];exact q.lt,by rw[e1];exact q.le,q.len,by rw[e1];exact q.ex,by rw[e1];exact q.fr, ?_,by rw[e1];exact q.nil,by rw[e1];exact q.nn⟩;intro e Y o s hs;rw[(h.live i C e o s J hg Y hs).conc hid];have:=q.val e Y o s hs;simpa [addr,e1] using this
 ·intro i C J V hn;rcases F i C J with ⟨rfl,rfl⟩|⟨hi,J⟩
  ·exact absurd V (nk rfl)
  ·rw[aC hi] at hn ⊢;exact h.own i C J V hn
 ·intro i C J V hn;rcases F i C J with ⟨rfl,rfl⟩|⟨hi,J⟩
  ·exact absurd V (nk rfl)
  ·rw[aC hi] at hn ⊢;exact h.old i C J V hn
 ·intro i j C D J hD hkC hkD hn hn' Y;rcases F i C J with ⟨rfl,rfl⟩|⟨hi,J⟩
  ·exact absurd hkC (nk rfl)
  ·rcases F j D hD with ⟨rfl,rfl⟩|⟨Z,hD⟩
   ·exact absurd hkD (nk rfl)
   ·rw[aC hi] at hn Y;rw[aC Z] at hn' Y;exact h.inj i j C D J hD hkC hkD hn hn' Y
 ·intro i C e o s J hg Y hs;rcases F i C J with ⟨rfl,rfl⟩|⟨hi,J⟩
  ·exact absurd Y (zbn _)
  ·exact(h.live i C e o s J hg Y hs).upd
 ·intro i C J hm;rcases F i C J with ⟨rfl,rfl⟩|⟨hi,J⟩
  ·rw[aA];exact⟨rfl,rfl, .inl h.below.size,hok⟩
  ·obtain⟨k1,k2,k3,k4⟩:=k.maps.ok i C J hm;rw[aC hi];exact⟨k1,k2,k3,k4.to rfl (GetEq.refl _ _) (λ_ _ _ _ _=>rfl) λhk e s hs=>(h.maps.live i C e s J hk hs).conc hid⟩
 ·intro i j C D J hD hm hm' Y;have lt: ∀i C,bl i=some C->C.kd.map=true->(β i).blk<w.heap.size:=λi C J hm=>(h.blk i C J (by intro e;rw[e] at hm;cases hm)).lt (h.maps.ok i C J hm).2.1;rcases F i C J with ⟨h1,_⟩|⟨hi,hC1⟩<;>rcases F j D hD with ⟨h2,_⟩|⟨Z,hD1⟩
  ·rw[h1,h2]
  ·rw[h1,aA,aC Z] at Y;have:=lt j D hD1 hm';rw[<-Y] at this;exact absurd this (zcA _)
  ·rw[h2,aA,aC hi] at Y;have:=lt i C hC1 hm;rw[Y] at this;exact absurd this (zcA _)
  ·rw[aC hi,aC Z] at Y;exact h.maps.inj i j C D hC1 hD1 hm hm' Y
 ·intro i C e s J V hs;rcases F i C J with ⟨rfl,rfl⟩|⟨hi,J⟩
  ·exact(hlv V e s hs).upd
  ·exact(h.maps.live i C e s J V hs).upd
 ·intro i C J V;rcases F i C J with ⟨rfl,rfl⟩|⟨hi,J⟩
  ·rw[aA]
  ·rw[aC hi];exact h.maps.off i C J V
theorem BC.newMap (h:BC W0 bl β w) (hid:bl id=none) (Y:kd.map=true) (hit:kd.it=false):
 BC W0 (upd bl id {n:=0,sz:=0,get:=λ_=> [],kd:=kd}) (gp β id ⟨w.heap.size,0,0,0,false⟩) (w.alloc (.map #[] 0)):=by
 have J:(w.alloc (.map #[] 0)).heap[w.heap.size]? =some (.map #[] 0):=by show (w.heap.push _)[w.heap.size]? =_;simp
 refine h.newObj hid Y ?_ λ_ e s Z=>by simp at Z
 cases kd with
 |mpL=>exact⟨#[],J,by simp,λe V=>by simp at V,λ_ _=>rfl⟩
 |mpI=>exact⟨[],J,λ_=>rfl⟩
 |mpB=>exact⟨[],J,λ_=>rfl,λ_ h=>(by cases h),zcB⟩
 |itL=>cases hit
 |itK=>cases hit
 |_=>trivial
theorem BC.setMap (h:BC W0 bl β w) (hB:bl id=some B) (hm:B.kd.map=true) {o':Obj}
 (hok:MapOK β (β id).blk {w with heap:=w.heap.setIfInBounds (β id).blk o'} B.kd get') (hl:B.kd.lst=true-> ∀e s,s∈get' e->Live bl s) (hno:B.kd.it=true\/ ∀j D,bl j=some D->D.kd.it=false):
 BC W0 (upd bl id {B with get:=get'}) β {w with heap:=w.heap.setIfInBounds (β id).blk o'}:=by
 obtain⟨m1,m2,m3,m4⟩:=h.maps.ok id B hB hm;have hcn:=m4.cellN hm;have F: ∀i C,upd bl id {B with get:=get'} i=some C->(i=id/\C={B with get:=get'})\/(i≠id/\bl i=some C):=by
  intro i C J;by_cases hi:i=id
  ·subst hi;rw[az] at J;exact .inl ⟨rfl,by simpa using J.symm⟩
  ·rw[ak hi] at J;exact .inr ⟨hi,J⟩
 have Z: ∀r,r≠(β id).blk->(w.heap.setIfInBounds (β id).blk o')[r]? =w.heap[r]? :=λr hr=>by simp[Ne.symm hr]
 have hcell: ∀j,w.cell? ⟨(β id).blk,j,none⟩=none:=hcn;have hbel:Below (β id).blk w {w with heap:=w.heap.setIfInBounds (β id).blk o'}:=⟨rfl,rfl,rfl,by simp,λk V=>Z k (by omega)⟩;have nm: ∀{K:BK},K.map=false->B.kd≠K:=λhK e=>by rw[e,hK] at hm;cases hm
 have blk: ∀i C,bl i=some C->C.kd≠ .gone->BlkOK β i C {w with heap:=w.heap.setIfInBounds (β id).blk o'}:=by
  intro i C J hg;have q:=h.blk i C J hg;have cel: ∀j,(β i).blk≠(β id).blk->({w with heap:=w.heap.setIfInBounds (β id).blk o'}:World).cell? ⟨(β i).blk,j,none⟩=w.cell? ⟨(β i).blk,j,none⟩:=λj hb=>by simp only[World.cell?,Z _ hb]
  have fro: ∀j,(β i).blk≠(β id).blk->({w with heap:=w.heap.setIfInBounds (β id).blk o'}:World).frozen? ⟨(β i).blk,j,none⟩=w.frozen? ⟨(β i).blk,j,none⟩:=λj hb=>by simp only[World.frozen?,Z _ hb]
  have apart: ∀j,(w.cell? ⟨(β i).blk,j,none⟩).isSome=true->(β i).blk≠(β id).blk:=λj hj e=>by rw[e,hcell] at hj;cases hj
  refine⟨q.sz,λh=>by simpa using q.lt h,q.le,q.len,λj hj=> ?_,λV j hj=> ?_,λe Y o s hs=> ?_,q.nil,q.nn⟩
  ·rw[cel _ (apart _ (q.ex j hj))];exact q.ex j hj
  ·rw[fro _ (apart _ (q.ex j hj))];exact q.fr V j hj
  ·have:=q.val e Y o s hs;unfold addr at this ⊢;rw[cel _ (apart _ (by rw[this];rfl))];exact this
 refine⟨h.below.at m3 rfl rfl rfl (by simp) Z, ?_, ?_, ?_, ?_, ?_, ?_, ?_, ?_, ?_⟩
 ·intro i C J hg;rcases F i C J with ⟨rfl,rfl⟩|⟨_,J⟩
  ·have q:=blk i B hB hg;exact⟨q.sz,q.lt,q.le,λe Y=>by rw[show ({B with get:=get'}:Blk).n=0 from m1] at Y;omega,q.ex,λV=>q.fr V,λe Y=>by rw[show ({B with get:=get'}:Blk).n=0 from m1] at Y;omega,q.nil,q.nn⟩
  ·exact blk i C J hg
 ·intro i C J V;rcases F i C J with ⟨rfl,rfl⟩|⟨_,J⟩
  ·exact absurd V (nm rfl)
  ·exact h.own i C J V
 ·intro i C J V;rcases F i C J with ⟨rfl,rfl⟩|⟨_,J⟩
  ·exact absurd V (nm rfl)
  ·exact h.old i C J V
 ·intro i j C D J hD hkC hkD;rcases F i C J with ⟨rfl,rfl⟩|⟨_,J⟩
  ·exact absurd hkC (nm rfl)
  ·rcases F j D hD with ⟨rfl,rfl⟩|⟨_,hD⟩
   ·exact absurd hkD (nm rfl)
   ·exact h.inj i j C D J hD hkC hkD
 ·intro i C e o s J hg Y hs;rcases F i C J with ⟨rfl,rfl⟩|⟨_,J⟩
  ·rw[show ({B with get:=get'}:Blk).n=0 from m1] at Y;omega
  ·exact(h.live i C e o s J hg Y hs).upd
 ·intro i C J hm';rcases F i C J with ⟨rfl,rfl⟩|⟨hi,J⟩
  ·exact⟨m1,m2,m3,hok⟩
  ·obtain⟨k1,k2,k3,k4⟩:=h.maps.ok i C J hm';refine⟨k1,k2,k3,k4.to (Z _ λe=>hi (h.maps.inj i id C B J hB hm' hm e)) (GetEq.refl _ _) (λhit m es c hm2=>Z _ λe=> ?_) λ_ _ _ _=>rfl⟩;rcases hno with hno|hno
   ·rcases m4.heap hm with ⟨h1,_⟩|⟨_,q1,q2,q3,q4,h2⟩
    ·rw[hno] at h1;cases h1
    ·rw[e,h2] at hm2;cases hm2
   ·rw[hno i C J] at hit;cases hit
 ·intro i j C D J hD hm1 hm2 Y;rcases F i C J with ⟨h1,_⟩|⟨hi,hC1⟩<;>rcases F j D hD with ⟨h2,_⟩|⟨hj,hD1⟩
  ·rw[h1,h2]
  ·rw[h1] at Y ⊢;exact h.maps.inj _ j B D hB hD1 hm hm2 Y
  ·rw[h2] at Y ⊢;exact h.maps.inj i _ C B hC1 hB hm1 hm Y
  ·exact h.maps.inj i j C D hC1 hD1 hm1 hm2 Y
 ·intro i C e s J V hs;rcases F i C J with ⟨rfl,rfl⟩|⟨_,J⟩
  ·exact(hl V e s hs).upd
  ·exact(h.maps.live i C e s J V hs).upd
 ·intro i C J V;rcases F i C J with ⟨rfl,rfl⟩|⟨_,J⟩
  ·exact h.maps.off _ B hB V
  ·exact h.maps.off i C J V
variable {B':Base}
theorem BC.rebase {B:Base} (h:BC B bl β w) (hp:Pres B' w)
 (Z: ∀i X,bl i=some X->X.kd= .own\/X.kd.map=true->(β i).nil=false->B.mine (β i).blk->B'.mine (β i).blk)
 (ho: ∀i X,bl i=some X->X.kd= .old->(β i).nil=false->B.out (β i).blk->B'.out (β i).blk):BC B' bl β w where
 below:=hp
 blk:=h.blk
 own i X J V Y:=Z i X J (.inl V) Y (h.own i X J V Y)
 old i X J V Y:=ho i X J V Y (h.old i X J V Y)
 inj:=h.inj
 live:=h.live
 maps:=
  {ok:=λi X J V=>by
    obtain⟨k1,k2,k3,k4⟩:=h.maps.ok i X J V;exact⟨k1,k2,Z i X J (.inr V) k2 k3,k4⟩
   inj:=h.maps.inj
   live:=h.maps.live
   off:=h.maps.off}
theorem BC.late (h:BC W0 bl β w) (hid:bl id=none) {ty:TypeId}
 (Z:w.heap[b]? =some (.cells (SV.concs β cs).toArray ty (0,0))) (hcs: ∀s∈cs,s.ids= []) (J:W0.mine b) (V: ∀i C,bl i=some C->C.kd= .own->(β i).nil=false->(β i).blk≠b):
 BC W0 (upd bl id {n:=1,sz:=cs.length,get:=λ_=>cs,kd:= .own}) (gp β id ⟨b,0,cs.length,1,false⟩) w:=by
 have hc: ∀j,w.cell? ⟨b,j,none⟩=(SV.concs β cs)[j]? :=λj=>by simp[World.cell?,Z]
 have hlen:(SV.concs β cs).length=cs.length:=by rw[SV.concs_eq];simp
 refine h.allocG hid (B:={n:=1,sz:=cs.length,get:=λ_=>cs,kd:= .own}) rfl (λ_ _=>rfl) (λe o s he Y i hi=>by rw[hcs s (zal Y)] at hi;cases hi) (zdG _ _) (L:=⟨b,0,cs.length,1,false⟩) rfl J V
  (zaq.1 Z).1 (za0 _) (λh=>by cases h) (λ_=>rfl) (λj hj=> ?_) (λj hj=> ?_) (λe o s he Y=> ?_)
 ·simp only[za7,hc,Nat.one_mul] at hj ⊢;rw[zaa (by omega)];rfl
 ·simp[World.frozen?,Z]
 ·have:e=0:=by simp at he;exact he
  subst this;simp only[zcE,za7,hc,SV.concs_eq];simp at Y;simp[Y]
theorem BC.hop {B:Base} {g:Nat} (h:BC B bl β w) (hp:Pres B' w') (hsz:w.heap.size<=w'.heap.size) (hh: ∀k,k<w.heap.size->k≠b->k≠g->w'.heap[k]? =w.heap[k]?)
 (hb: ∀i X,bl i=some X->X.kd≠ .gone->(β i).nil=false->(β i).blk≠b/\(β i).blk≠g) (hno: ∀es c,w.heap[b]? ≠some (.map es c)/\w.heap[g]? ≠some (.map es c))
 (hm: ∀i X,bl i=some X->X.kd= .own\/X.kd.map=true->(β i).nil=false->B.mine (β i).blk->B'.mine (β i).blk)
 (ho: ∀i X,bl i=some X->X.kd= .old->(β i).nil=false->B.out (β i).blk->B'.out (β i).blk):BC B' bl β w':=by
 have at': ∀i X,bl i=some X->X.kd≠ .gone->(β i).nil=false->w'.heap[(β i).blk]? =w.heap[(β i).blk]? :=λi X J hg Y=>
  hh _ ((h.blk i X J hg).lt Y) (hb i X J hg Y).1 (hb i X J hg Y).2
 have mp: ∀(m:Nat) es c,w.heap[m]? =some (Obj.map es c)->w'.heap[m]? =w.heap[m]? :=λm es c hm'=>
  hh m (zaq.1 hm').1 (λe=>(hno es c).1 (e▸hm')) (λe=>(hno es c).2 (e▸hm'))
 have k1:BC B bl β w->MapsOK B bl β w':=λh=>h.maps.to (λi X J V=>⟨J,rfl,at' i X J (by intro e;rw[e] at V;cases V) (h.maps.ok i X J V).2.1⟩) (λs hs=>⟨hs,rfl⟩) mp;refine⟨hp,λi X J hg=> ?_,λi X J V Y=>hm i X J (.inl V) Y (h.own i X J V Y),λi X J V Y=>ho i X J V Y (h.old i X J V Y),h.inj,h.live, ?_⟩
 ·have q:=h.blk i X J hg;have nl: ∀j,j<(β i).cap*X.sz->w'.heap[(β i).blk]? =w.heap[(β i).blk]? :=λj Z=>at' i X J hg (q.lt_cap Z).1;refine⟨q.sz,λY=>zam (q.lt Y) hsz,q.le,q.len,λj Z=> ?_,λV j Z=> ?_,λe he o s hs=> ?_,q.nil,q.nn⟩
  ·have:=q.ex j Z;simp only[World.cell?,nl j Z] at this ⊢;exact this
  ·have:=q.fr V j Z;simp only[World.frozen?,nl j Z] at this ⊢;exact this
  ·have hl:=at' i X J hg (q.not_nil he);have:=q.val e he o s hs;simp only[World.cell?,addr,hl] at this ⊢;exact this
 ·have k2:=k1 h;refine⟨λi X J V=> ?_,k2.inj,k2.live,k2.off⟩;obtain⟨k1,k3,k4,k5⟩:=k2.ok i X J V;exact⟨k1,k3,hm i X J (.inr V) k3 k4,k5⟩
end
section
inductive TV where
 |dead
 |v (s:SV)
 |opt (t:Nat) (b:Bool) (s:SV)
structure AS where
 tm:Nat->TV
 bl:Nat->Option Blk
 nx:Nat
 nt:Nat
 wl:List Nat
 og:Nat->Bool
 ok:Nat->Bool
 df:List (FuncId×List SV×List SV):= []
 lit:List Nat:= []
 hq:Bool:=false
 sd:Option BD×Option (Nat×ByteArray):=(none,none)
def AS.put (A:AS) (d:Nat) (v:TV):AS:={A with tm:=λt=>bif Nat.beq t d then v else A.tm t}
def DC:List (Nat×Bool)->Nat->Bool->Bool
 | [],_,_=>false
 |(t,b)::r,u,c=>bif (Nat.beq t u&&(bif b then c else !c)) then true else DC r u c
def Xw (tm:Nat->TV):Nat->Nat->Bool->List (Nat×Bool)
 |0,_,_=> []
 |k+1,t,b=>(t,b)::match tm t with
  | .opt t' b' _=>Xw tm k t' b'
  |_=> []
def ev (tm:Nat->TV) (G:List (Nat×Bool)):Operand->Option SV
 | .tmp t=>match tm t with
   | .v s=>some s
   | .opt t' b s=>bif DC G t' b then some s else none
   | .dead=>none
 | .const c=>some (ofV c)
 | .global g=>some (.val (.pointer (some ⟨g,0,none⟩)))
 | .func f=>some (.fn (.func f) [] [])
def kO (tm:Nat->TV):Nat->Nat->Bool->Option Bool
 |0,_,_=>none
 |k+1,t,b=>match tm t with
  | .v (.val (.bool c))=>some (bif b then c else !c)
  | .opt t' b' (.val (.bool c))=>match kO tm k t' b' with
    |some g=>some (g&&(bif b then c else !c))
    |none=>none
  |_=>none
structure Eff where
 need:Bool:=true
 out:SV
 rd:List Nat:= []
 wr:Option (Nat×Nat×Nat×List SV):=none
 nw:Option Blk:=none
abbrev Ctr:=List SV->Option (Bool×SV)
inductive Res where
 |ok (s:SV)
 |pan (v:Value)
structure RC where
 X:Type
 pre:Bool
 spec:X->Prop
 out:X->SV
 nw:X->List Blk:=λ_=> []
 pan:X->Option Value:=λ_=>none
 ch:X->List (Nat×Blk):=λ_=> []
 ex:pre=true-> ∃x,spec x
def RC.res (C:RC) (x:C.X):Res:=match C.pan x with
 |none=> .ok (C.out x)
 |some v=> .pan v
abbrev DCtr:=Option Value->(zdP)->List SV->Option (Bool×Option Value×List (Nat×Blk))
abbrev MCtr:=(zdP)->Nat->List SV->Option RC
def xW (P:Program) (t:TypeId):Option Bool:=
 match P.underlying t with
 |some (.struct _)=>some true
 |some (.array _ _)=>some true
 |some _=>some false
 |none=>none
def szT (P:Program) (t:TypeId):Option Nat:=(P.info? t).map (·.size)
def kj (P:Program) (t:TypeId) (cs:zdN) (off:Nat):Option SV:=
 match xW P t,szT P t with
 |some true,some n=>some (.agg ((cs.drop off).take n))
 |some false,_=>cs[off]?
 |_,_=>none
def Pl:IntKind->Nat
 | .i8=>0| .i16=>1| .i32=>2| .i64=>3| .u8=>4| .u16=>5| .u32=>6| .u64=>7
def kEq (k l:IntKind):Bool:=Nat.beq (Pl k) (Pl l)
variable {k:IntKind}
theorem rF {l:IntKind} (h:kEq k l=true):k=l:=by
 cases k<;>cases l<;>first|rfl|(exact absurd h (by decide))
def kLo:IntKind->Int
 | .i8=> -128| .i16=> -32768| .i32=> -2147483648| .i64=> -9223372036854775808|_=>0
def kHi:IntKind->Int
 | .i8=>127| .i16=>32767| .i32=>2147483647| .i64=>9223372036854775807
 | .u8=>255| .u16=>65535| .u32=>4294967295| .u64=>18446744073709551615
def inR (k:IntKind) (z:Int):Bool:=decide (kLo k<=z)&&decide (z<=kHi k)
variable {z:Int}
theorem Wl:inR k z=true↔kLo k<=z/\z<=kHi k:=by simp[inR]
theorem g9 (h:inR k z=true):k.wrap z=z:=by
 obtain⟨h1,h2⟩:=Wl.1 h;clear h;unfold IntKind.wrap;cases k<;>simp[IntKind.bits,IntKind.signed,kLo,kHi] at h1 h2 ⊢ <;>first
  |omega
  |(split<;>omega)
def seq (x y:zdK):Bool:=x.data.toList==y.data.toList
theorem F3 (x y:zdK):seq x y=(x.toList==y.toList):=by
 rw[ByteArray.toList_eq,ByteArray.toList_eq];rfl
theorem We {x y:zdK}:seq x y=true↔x=y:=by
 unfold seq;rw[zdB];constructor
 ·intro h;obtain⟨⟨a⟩⟩:=x;obtain⟨⟨b⟩⟩:=y;simp at h;rw[h]
 ·rintro rfl;rfl
def F4 (P:Program) (f:TypeId->SV->SV->Option Bool) (xs ys:zdN):List Field->Option Bool
 | []=>some true
 |fl::fs=>bif decide (fl.name= "_") then none else match kj P fl.type xs fl.offset,kj P fl.type ys fl.offset with
  |some a,some b=>match f fl.type a b,F4 P f xs ys fs with
   |some p,some q=>some (p&&q)
   |_,_=>none
  |_,_=>none
def F5 (P:Program) (f:TypeId->SV->SV->Option Bool) (e s:Nat) (xs ys:zdN):Nat->Nat->Option Bool
 |0,_=>some true
 |n+1,i=>match kj P e xs (i*s),kj P e ys (i*s) with
  |some a,some b=>match f e a b,F5 P f e s xs ys n (i+1) with
   |some p,some q=>some (p&&q)
   |_,_=>none
  |_,_=>none
def eqS (P:Program):Nat->TypeId->SV->SV->Option Bool
 |0,_,_,_=>none
 |d+1,t,x,y=>match P.underlying t with
  |some .bool=>match x,y with
   | .val (.bool a), .val (.bool b)=>some (a==b)
   |_,_=>none
  |some (.int _)=>match x,y with
   | .val (.int k a), .val (.int k' b)=>bif kEq k k' then some (a==b) else none
   |_,_=>none
  |some .string=>match x,y with
   | .val (.string a), .val (.string b)=>some (seq a b)
   |_,_=>none
  |some (.struct fs)=>match x,y with
   | .agg xs, .agg ys=>bif P.stoodInHeld t then none else F4 P (eqS P d) xs ys fs.toList
   |_,_=>none
  |some (.array n e)=>match x,y with
   | .agg xs, .agg ys=>match szT P e with
     |some s=>F5 P (eqS P d) e s xs ys n 0
     |none=>none
   |_,_=>none
  |_=>none
def J7 (op:BinOp) (k k':IntKind) (a b:Int):Option (Bool×SV):=
 match op with
 | .shl=>some (decide (0<=b)&&inR k (a*2^(min b.toNat k.bits)), .val (.int k (a*2^(min b.toNat k.bits))))
 | .shr=>some (decide (0<=b), .val (.int k (a.fdiv (2^(min b.toNat k.bits)))))
 |op=>bif kEq k k' then(match op with
  | .add=>some (inR k (a+b), .val (.int k (a+b)))
  | .sub=>some (inR k (a - b), .val (.int k (a - b)))
  | .mul=>some (inR k (a*b), .val (.int k (a*b)))
  | .quo=>some (!decide (b=0)&&inR k (a.tdiv b), .val (.int k (a.tdiv b)))
  | .rem=>some (!decide (b=0), .val (.int k (a.tmod b)))
  | .eql=>some (true, .val (.bool (a==b)))
  | .neq=>some (true, .val (.bool (a !=b)))
  | .lss=>some (true, .val (.bool (decide (a<b))))
  | .leq=>some (true, .val (.bool (decide (a<=b))))
  | .gtr=>some (true, .val (.bool (decide (a>b))))
  | .geq=>some (true, .val (.bool (decide (a≥b))))
  |_=>none) else none
def wk (op:BinOp) (a b:zdK):Option (Bool×SV):=
 match op with
 | .add=>some (decide (a.size+b.size<=9223372036854775807), .val (.string (a++b)))
 | .eql=>some (true, .val (.bool (seq a b)))
 | .neq=>some (true, .val (.bool (!seq a b)))
 | .lss=>some (true, .val (.bool (Op.bytesLess a.data.toList b.data.toList)))
 | .gtr=>some (true, .val (.bool (!(Op.bytesLess a.data.toList b.data.toList||seq a b))))
 | .leq=>some (true, .val (.bool (Op.bytesLess a.data.toList b.data.toList||seq a b)))
 | .geq=>some (true, .val (.bool (!Op.bytesLess a.data.toList b.data.toList)))
 |_=>none
def DD (P:Program) (op:BinOp) (t:TypeId) (x y:SV):Option (Bool×SV):=
 match op,eqS P 9 t x y with
 | .eql,some b=>some (true, .val (.bool b))
 | .neq,some b=>some (true, .val (.bool (!b)))
 |_,_=>none
def K0 (P:Program) (op:BinOp) (t:TypeId) (b:Bool):Option (Bool×SV):=match P.underlying t,op with
 |some (.interface _), .eql=>some (true, .val (.bool b))
 |some (.interface _), .neq=>some (true, .val (.bool (!b)))
 |_,_=>none
def J8 (P:Program) (op:BinOp) (t:TypeId) (x y:SV):Option (Bool×SV):=
 match x,y with
 | .val (.int k a), .val (.int k' b)=>J7 op k k' a b
 | .val (.string a), .val (.string b)=>wk op a b
 | .val (.bool _), .val (.bool _)=>DD P op t x y
 | .agg _, .agg _=>bif P.eqGuardType P.depth t then none else DD P op t x y
 |_,_=>none
def agm (P:Program) (op:BinOp) (t:TypeId) (z:Operand) (x y:SV):Option (Bool×SV):=match z,x with
 | .const .nilIface, .val .nilIface=>K0 P op t true
 | .const .nilIface, .val (.iface _ _)=>K0 P op t false
 |_,_=>J8 P op t x y
def unS (op:UnOp) (x:SV):Option (Bool×SV):=
 match op,x with
 | .neg, .val (.int k n)=>some (inR k (-n), .val (.int k (-n)))
 | .not, .val (.bool b)=>some (true, .val (.bool (!b)))
 |_,_=>none
def F6 (s:zdK) (i:Nat):Int:=
 match s.data.toList[i]? with
 |some b=>(b.toNat:Int)
 |none=>0
def oY:List SV->Option (List ByteArray)
 | []=>some []
 | .val (.string s)::r=>match oY r with
   |some l=>some (s::l)
   |none=>none
 |_=>none
def F7:List ByteArray->Nat->zdK
 | [],_=>⟨#[]⟩
 |s::_,0=>s
 |_::r,i+1=>F7 r i
def oZ (k:IntKind):List SV->Option (List Int)
 | []=>some []
 | .val (.int k' z)::r=>bif kEq k' k then(match oZ k r with
   |some l=>some (z::l)
   |none=>none) else none
 |_=>none
def F8:List Int->Nat->Int
 | [],_=>0
 |s::_,0=>s
 |_::r,i+1=>F8 r i
def Nu (P:Program) (el:TypeId) (cs:zdN) (i s:Nat):Option SV:=
 match oY cs with
 |some l=>some (.val (.string (F7 l i)))
 |none=>match oZ .i64 cs with
  |some l=>some (.val (.int .i64 (F8 l i)))
  |none=>kj P el cs (i*s)
def je (r:zdN) (s:Nat):zdQ:=bif Nat.beq s 1 then(match oY r with
 |some l=>λe=> [.val (.string (F7 l e))]
 |none=>match oZ .i64 r with
  |some l=>λe=> [.val (.int .i64 (F8 l e))]
  |none=>λe=>(r.drop (e*s)).take s) else λe=>(r.drop (e*s)).take s
def F9 (n:Nat) (lo hi:Option SV):Option (Bool×Nat×Nat):=
 match lo,hi with
 |none,none=>some (true,0,n)
 |none,some (.val (.int _ h))=>some (decide (0<=h)&&decide (h<=n),0,h.toNat)
 |some (.val (.int _ l)),none=>some (decide (0<=l)&&decide (l<=n),l.toNat,n)
 |some (.val (.int _ l)),some (.val (.int _ h))=>some (decide (0<=l)&&decide (l<=h)&&decide (h<=n),l.toNat,h.toNat)
 |_,_=>none
def xX (P:Program) (t:TypeId):Option (zdN):=((P.info? t).bind (·.zero)).map λv=>v.cells.toList.map SV.val
def rG (place:Nat->Option (Nat×Nat)) (cells:zdN):List (Nat×SV)->Option (zdN)
 | []=>some cells
 |(i,v)::rest=>
  match place i with
  |none=>none
  |some (off,size)=>
   bif Nat.beq v.cells.length size&&Nat.ble (off+v.cells.length) cells.length then rG place (gZ cells off v.cells) rest else none
def fieldAt (P:Program) (t:TypeId) (i:Nat):Option Field:=
 match P.underlying t with
 |some (.struct fs)=>fs.toList[i]?
 |_=>none
def nM (P:Program):List Field->Option (List (Nat×Nat))
 | []=>some []
 |f::fs=>match szT P f.type,nM P fs with
  |some s,some r=>some ((f.offset,s)::r)
  |_,_=>none
def evs (tm:Nat->TV) (G:List (Nat×Bool)):List Operand->Option (zdN)
 | []=>some []
 |x::xs=>match ev tm G x,evs tm G xs with
  |some a,some r=>some (a::r)
  |_,_=>none
def dJ (tm:Nat->TV) (G:List (Nat×Bool)):List (Nat×Operand)->Option (List (Nat×SV))
 | []=>some []
 |(i,x)::xs=>match ev tm G x,dJ tm G xs with
  |some (.val (.agg _)),_=>none
  |some a,some r=>some ((i,a)::r)
  |_,_=>none
def kP (get:zdQ):Nat->Nat->Option (List UInt8)
 |_,0=>some []
 |e,n+1=>match get e with
  | [.val (.int .u8 b)]=>match kP get (e+1) n with
    |some r=>some (UInt8.ofNat b.toNat::r)
    |none=>none
  |_=>none
def Ga (c:Bool) (x y:SV):Option SV:=
 match x,y with
 | .val (.bool p), .val (.bool q)=>some (.val (.bool (bif c then p else q)))
 |x,y=>some (bif c then x else y)
def km (o:Option SV):Option Eff:=
 match o with
 |some s=>some {out:=s}
 |none=>none
def BZ:Option (Bool×SV)->Option (Bool×SV)
 |some p=>some p
 |none=>some (false, .val undef)
def pY (o:Option (Bool×SV)):Option Eff:=
 match o with
 |some (b,s)=>some {need:=b,out:=s}
 |none=>none
def Nv (P:Program) (t:TypeId) (x:SV):Option SV:=
 match P.underlying t,x with
 |some .string, .val (.string s)=>some (.val (.int .i64 s.size))
 |some (.array n _),_=>some (.val (.int .i64 n))
 |some (.slice _), .slc _ _ n=>some (.val (.int .i64 n))
 |some (.slice _), .val (.slice _ n _)=>some (.val (.int .i64 n))
 |_,_=>none
def mm (isMax:Bool) (x y:SV):Option SV:=
 match x,y with
 | .val (.int k a), .val (.int _ b)=>some (.val (.int k (bif isMax then(if b>a then b else a) else(if b<a then b else a))))
 |_,_=>none
def mms (isMax:Bool):SV->List SV->Option SV
 |x, []=>some x
 |x,y::r=>match mm isMax x y with
  |some z=>mms isMax z r
  |none=>none
def rH (P:Program) (bl:zdP) (t:TypeId) (x:SV):Option Eff:=
 match x with
 | .ptr id e o=>match bl id with
   |some B=>match B.kd with
    | .gone=>none
    |_=>match xW P t,szT P t with
     |some false,_=>match (B.get e)[o]? with
      |some s=>some {need:=decide (e<B.n),out:=s,rd:= [id]}
      |none=>none
     |some true,some n=>bif Nat.beq (((B.get e).drop o).take n).length n then some {need:=decide (e<B.n),out:= .agg (((B.get e).drop o).take n),rd:= [id]} else none
     |_,_=>none
   |none=>none
 |_=>none
def o9 (P:Program) (bl:zdP) (t:TypeId) (x v:SV):Option Eff:=
 match x with
 | .ptr id e o=>match bl id with
   |some B=>match B.kd with
    | .own=>match szT P t with
      |some n=>bif Nat.beq v.cells.length n&&v.cells.all SV.one&&Nat.ble (o+v.cells.length) B.sz then some {need:=decide (e<B.n),out:= .val undef,wr:=some (id,e,o,v.cells)} else none
      |none=>none
    |_=>none
   |none=>none
 |_=>none
def ae2 (P:Program) (bl:zdP) (b:Builtin) (ts:Array TypeId) (args:zdN):Option Eff:=
 match b with
 | .len=>match ts[0]?,args with
   |some t, [x]=>km (Nv P t x)
   |_,_=>none
 | .max=>match args with
   |x::r=>km (mms true x r)
   | []=>none
 | .min=>match args with
   |x::r=>km (mms false x r)
   | []=>none
 |_=>none
def target (tm:Nat->TV) (G:List (Nat×Bool)) (c:Call):Option (FuncId×List SV):=
 match c.callee with
 | .value f=>match ev tm G f,evs tm G c.args.toList with
   |some (.fn (.func g) first caps),some args=>some (g,first++args++caps)
   |_,_=>none
 |_=>none
def keq (P:Program) (t:TypeId) (x y:SV):Option Bool:=
 match P.underlying t,x,y with
 |some (.int k0), .val (.int k a), .val (.int k' b)=>bif kEq k k'&&kEq k0 k then some (a==b) else none
 |some .string, .val (.string a), .val (.string b)=>some (seq a b)
 |_,_,_=>none
def Aa (get:zdQ):Nat->Nat->Option (List (SV×SV))
 |0,_=>none
 |n+1,e=>match get e with
  | []=>some []
  | [k,v]=>(Aa get n (e+1)).map ((k,v):: ·)
  |_=>none
def Gb (P:Program) (t:TypeId) (k:SV):List (SV×SV)->Option Bool
 | []=>some true
 |(k',_)::r=>match keq P t k k',Gb P t k r with
  |some b,some c=>some (!b&&c)
  |_,_=>none
def MS:Value->Bool
 | .int .i64 n=>n==0
 |_=>false
def MT:Value->Bool
 | .bool b=> !b
 |_=>false
def am5 (ok:Bool) (v:SV) (b:Bool):SV:=bif ok then .tup [v, .val (.bool b)] else v
def findS (P:Program) (t:TypeId) (k:SV):List (SV×SV)->Option (Option SV)
 | []=>some none
 |(k',v)::r=>match keq P t k k' with
  |some b=>bif b then some (some v) else findS P t k r
  |none=>none
def DE (P:Program) (hq:Bool) (bl:zdP) (t:TypeId) (m k:SV) (ok:Bool):Option Eff:=
 match P.underlying t,m with
 |some (.map kt et), .mp i=>match bl i,(P.info? et).bind (·.zero) with
  |some B,some z=>match B.kd with
   | .mpL=>match Aa B.get 64 0,keq P kt k k with
     |some l,some _=>bif hq then(match Gb P kt k l with
       |some b=>some {need:=b,out:=am5 ok (ofV z) false,rd:= [i]}
       |none=>none) else match findS P kt k l with
      |some (some v)=>some {out:=am5 ok v true,rd:= [i]}
      |some none=>some {out:=am5 ok (ofV z) false,rd:= [i]}
      |none=>none
     |_,_=>none
   | .mpI=>match P.underlying kt,k with
     |some (.int .i64), .val (.int .i64 k)=>some {need:= !ok&&decide (0<=k)&&MS z,out:= .val (.int .i64 (iG (B.get k.toNat))),rd:= [i]}
     |_,_=>none
   | .mpB=>match P.underlying kt,k with
     |some (.int .i64), .val (.int .i64 k)=>some {need:= !ok&&decide (0<=k)&&MT z,out:= .val (.bool (su (B.get k.toNat))),rd:= [i]}
     |_,_=>none
   |_=>none
  |_,_=>none
 |_,_=>none
abbrev _root_.zdR:=FuncId->Option Ctr
def eff (P:Program) (Γ:zdR) (hq:Bool) (tm:Nat->TV) (bl:zdP) (G:List (Nat×Bool)) (id:Nat) (op:Op):Option Eff:=
 match op with
 | .move x=>km (ev tm G x)
 | .assign x=>km (ev tm G x)
 | .pick c x y=>match c with
   | .tmp t=>match ev tm G c with
     |some (.val (.bool b))=>match ev tm ((t,true)::G) x,ev tm ((t,false)::G) y with
      |some x,some y=>km (Ga b x y)
      |_,_=>none
     |_=>none
   |_=>none
 | .alloc t=>match xX P t with
   |some cs=>some {out:= .ptr id 0 0,nw:=some {n:=1,sz:=cs.length,get:=λ_=>cs,kd:= .own}}
   |none=>none
 | .box _ x=>match ev tm G x with
   |some (.val (.agg _))=>none
   |some v=>some {out:= .ptr id 0 0,nw:=some {n:=1,sz:=v.cells.length,get:=λ_=>v.cells,kd:= .own}}
   |none=>none
 | .build t parts=>match xX P t,dJ tm G parts.toList with
   |some cs,some ps=>match P.underlying t with
    |some (.struct fs)=>match nM P fs.toList with
     |some pl=>match rG (λi=>pl[i]?) cs ps with
      |some r=>some {out:= .agg r}
      |none=>none
     |none=>none
    |some (.array _ e)=>match szT P e with
     |some s=>match rG (λi=>some (i*s,s)) cs ps with
      |some r=>some {out:= .agg r}
      |none=>none
     |none=>none
    |_=>none
   |_,_=>none
 | .buildSlice t n parts=>match P.underlying t,dJ tm G parts.toList with
   |some (.slice e),some ps=>match szT P e,xX P e with
    |some s,some z=>bif Nat.beq z.length s&&Nat.ble (n*s) 16777216&&Nat.ble 1 s then
      match rG (λi=>some (i*s,s)) (List.replicate n z).flatten ps with
      |some r=>some {out:= .slc id 0 n,nw:=some {n:=n,sz:=s,get:=je r s,kd:= .own}}
      |none=>none
     else none
    |_,_=>none
   |_,_=>none
 | .load t x=>match ev tm G x with
   |some a=>rH P bl t a
   |none=>none
 | .store t x y=>match ev tm G x,ev tm G y with
   |some a,some v=>o9 P bl t a v
   |_,_=>none
 | .nilCheck x=>match ev tm G x with
   |some (.ptr i e o)=>some {out:= .ptr i e o}
   |some (.fn (.func f) a c)=>some {out:= .fn (.func f) a c}
   |_=>none
 | .binOp op t x y _=>match ev tm G x,ev tm G y with
   |some a,some b=>pY (BZ (agm P op t y a b))
   |_,_=>none
 | .unOp op _ x=>match ev tm G x with
   |some a=>pY (BZ (unS op a))
   |none=>none
 | .convert src dst x=>match ev tm G x with
   |some (.val (.int k n))=>match P.underlying src,P.underlying dst with
    |some _,some (.int k')=>some {need:=inR k' n,out:= .val (.int k' n)}
    |_,_=>none
   |some (.val (.string s))=>match P.underlying src,P.underlying dst with
    |some _,some .string=>some {out:= .val (.string s)}
    |_,_=>none
   |some (.slc i e n)=>match P.underlying src,P.underlying dst,bl i with
    |some (.slice el),some .string,some B=>match P.underlying el,B.kd with
     |some (.int .u8), .own=>match kP B.get e n with
      |some r=>bif Nat.beq B.sz 1&&B.nn&&Nat.beq e 0 then some {need:=decide (e+n<=B.n),out:= .val (.string ⟨r.toArray⟩),rd:= [i]} else none
      |none=>none
     |_,_=>none
    |_,_,_=>none
   |_=>none
 | .makeFunc f a c=>match evs tm G a.toList,evs tm G c.toList with
   |some a,some c=>some {out:= .fn f a c}
   |_,_=>none
 | .slice t x lo hi none=>match ev tm G x,P.underlying t with
   |some (.val (.string s)),some .string=>match F9 s.size (lo.bind (ev tm G)) (hi.bind (ev tm G)) with
    |some (b,l,h)=>bif (lo.isSome==(lo.bind (ev tm G)).isSome)&&(hi.isSome==(hi.bind (ev tm G)).isSome) then some {need:=b,out:= .val (.string (s.extract l h))} else none
    |none=>none
   |some (.slc id e n),some (.slice el)=>match F9 n (lo.bind (ev tm G)) (hi.bind (ev tm G)),bl id,szT P el with
    |some (b,l,h),some B,some s=>match B.kd with
     | .gone=>none
     |_=>bif (lo.isSome==(lo.bind (ev tm G)).isSome)&&(hi.isSome==(hi.bind (ev tm G)).isSome)&&Nat.beq s B.sz then
       some {need:=b&&decide (e+n<=B.n)&&(bif Nat.beq e 0||Nat.beq l 0 then true else decide (e+l<B.n)),out:= .slc id (e+l) (h - l),rd:= [id]} else none
    |_,_,_=>none
   |_,_=>none
 | .fieldAddr t x i=>match ev tm G x,fieldAt P t i with
   |some (.ptr id e o),some f=>match szT P f.type with
    |some (_+1)=>some {out:= .ptr id e (o+f.offset)}
    |_=>none
   |_,_=>none
 | .field t x i=>match ev tm G x,fieldAt P t i with
   |some (.agg cs),some f=>km (kj P f.type cs f.offset)
   |_,_=>none
 | .indexAddr t x i=>match ev tm G x,ev tm G i with
   |some (.ptr id e o),some (.val (.int _ i))=>match P.underlying t with
    |some (.array n el)=>match szT P el with
     |some s=>some {need:=decide (0<=i)&&decide (i<n),out:= .ptr id e (o+i.toNat*s)}
     |none=>none
    |_=>none
   |some (.slc id e n),some (.val (.int _ i))=>match P.underlying t,bl id with
    |some (.slice el),some B=>match szT P el,B.kd with
     |some _, .gone=>none
     |some s,_=>bif Nat.beq s B.sz then some {need:=(bif B.nn&&Nat.beq e 0 then decide (0<=i)&&decide (i<n) else decide (0<=i)&&decide (i<n)&&decide (e+i.toNat<B.n)),out:= .ptr id (e+i.toNat) 0,rd:= [id]} else none
     |none,_=>none
    |_,_=>none
   |_,_=>none
 | .index t x i=>match ev tm G x,ev tm G i with
   |some (.agg cs),some (.val (.int _ i))=>match P.underlying t with
    |some (.array n el)=>match szT P el with
     |some 1=>match xW P el with
      |some false=>bif Nat.beq cs.length n then(match Nu P el cs i.toNat 1 with
       |some v=>some {need:=decide (0<=i)&&decide (i<n),out:=v}
       |none=>none) else none
      |_=>none
     |some s=>match kj P el cs (i.toNat*s) with
      |some v=>some {need:=decide (0<=i)&&decide (i<n),out:=v}
      |none=>none
     |none=>none
    |_=>none
   |some (.val (.string s)),some (.val (.int _ i))=>match P.underlying t with
    |some .string=>some {need:=decide (0<=i)&&decide (i<s.size),out:= .val (.int .u8 (F6 s i.toNat))}
    |_=>none
   |_,_=>none
 | .lookup t m k ok=>match ev tm G m,ev tm G k with
   |some m,some k=>DE P hq bl t m k ok
   |_,_=>none
 | .extract x i=>match ev tm G x with
   |some (.tup vs)=>km vs[i]?
   |_=>none
 | .call c=>match c.callee with
   | .builtin b=>match evs tm G c.args.toList with
     |some args=>ae2 P bl b c.argTypes args
     |none=>none
   |_=>match target tm G c with
    |some (f,args)=>match Γ f with
     |some k=>pY (k args)
     |none=>none
    |none=>none
 |_=>none
def VO (bl:zdP) (id:Nat) (E:Eff):zdP:=
 let bl:=match E.wr with
  |some (i,e,o,cs)=>match bl i with
   |some B=>upd bl i (B.put e o cs)
   |none=>bl
  |none=>bl
 match E.nw with
 |some B=>upd bl id B
 |none=>bl
end
section
def af (b:Bool) (K:Prop):Prop:=match b with
 |true=>K
 |false=>False
def ag (b:Bool) (p q:Prop):Prop:=match b with
 |true=>p
 |false=>q
def dC (g n:Bool):Bool:=match n with
 |true=>true
 |false=> !g
abbrev ga:=List Nat×List Nat
def wrI (E:Eff):zdL:=match E.wr with
 |some (i,_,_,_)=> [i]
 |none=> []
def nwI (id:Nat) (E:Eff):zdL:=match E.nw with
 |some _=> [id]
 |none=> []
def aV (id:Nat) (E:Eff):ga:=(E.rd,wrI E++nwI id E)
def putD (A:AS) (d:Option Tmp) (v:TV):Option AS:=
 match d with
 |none=>some A
 |some d=>bif Nat.blt d A.nt&& !A.ok d then some (A.put d v) else none
def putG (A:AS) (d:Option Tmp) (t:Nat) (b:Bool) (s:SV):Option AS:=
 match d with
 |none=>some A
 |some d=>bif Nat.blt d A.nt&& !A.ok d&& !Nat.beq d t then some {A.put d (.opt t b s) with og:=λx=>bif Nat.beq x d then true else A.og x,ok:=λx=>bif Nat.beq x t then true else A.ok x} else none
def fresh (A:AS) (id:Nat):Bool:=match A.bl id with
 |none=>true
 |some _=>false
abbrev _root_.zdS:=Array Oper
def step (P:Program) (Γ:zdR) (ops:zdS) (id:Nat) (o:Oper) (A:AS):Option (Bool×AS×ga):=
 match o.guard with
 |none=>match eff P Γ A.hq A.tm A.bl [] id o.op with
  |some E=>bif fresh A id then match putD {A with bl:=VO A.bl id E} o.dst (.v E.out) with
   |some A'=>some (E.need,A',aV id E)
   |none=>none
   else none
  |none=>none
 |some (j,b)=>match (ops.toList[j]?).bind (·.dst) with
  |some t=>match kO A.tm 9 t b,eff P Γ A.hq A.tm A.bl (Xw A.tm 9 t b) id o.op with
   |some g,some E=>match E.wr,E.nw with
    |none,none=>bif fresh A id then match putG A o.dst t b E.out with
     |some A'=>some (dC g E.need,A',aV id E)
     |none=>none
     else none
    |_,_=>none
   |_,_=>none
  |none=>none
def jT (x y:zdL):Bool:=x.any λa=>y.any (Nat.beq a)
def pZ (f g:ga):Bool:=jT f.2 g.1||jT f.2 g.2||jT f.1 g.2
def Ab (m x:Nat):Bool:=Nat.beq (Nat.land (Nat.shiftRight m x) 1) 1
def rJ (f:Nat->Nat):List Edge->Nat
 | []=>0
 |e::r=>Nat.lor (bif Region.binds .any e then Nat.lor (Nat.shiftLeft 1 e.on) (f e.on) else 0) (rJ f r)
def xZ:List Oper->Nat->List Nat->zdL
 | [],_,acc=>acc
 |o::r,i,acc=>xZ r (i+1) (rJ (λj=>bif Nat.blt j i then acc.getD (i - 1 - j) 0 else 0) o.after.toList::acc)
def bK (ops:List Oper) (k i x:Nat):Bool:=Nat.blt i k&&Ab ((xZ ops 0 []).getD (k - 1 - i) 0) x
def pex (v:Value):Exit:= .panic [{v:=v,recovered:=false}]
def rK (P:Program) (Γ:zdR) (ops:zdS) (base:Nat):List Oper->Nat->AS->List ga->(AS->List ga->Prop)->Prop
 | [],_,A,tr,K=>K A tr.reverse
 |o::rest,i,A,tr,K=>match step P Γ ops (base+i) o A with
  |some (b,A',f)=>af b (rK P Γ ops base rest (i+1) A' (f::tr) K)
  |none=>False
def free (ops:zdS) (l:List Oper) (tr:List ga):Bool:=
 (List.range l.length).all λi=>((l[i]?).map λo=>o.after.toList.all λe=> !Region.binds .any e||Nat.blt e.on i).getD false&&
   (List.range i).all λx=>bK l l.length i x||match l[i]?,l[x]?,tr[i]?,tr[x]? with
   |some oi,some ox,some fi,some fx=>Oper.apart ops ox oi&& !pZ fx fi
   |_,_,_,_=>false
def endG (A:AS):AS:={A with tm:=λt=>bif A.og t then .dead else A.tm t,og:=λ_=>false,ok:=λ_=>false,lit:= []}
abbrev Aft:=Res->(zdP)->Nat->List Nat->Prop
abbrev Inl:=FuncId->List SV->(zdP)->Nat->List Nat->Aft->Prop
def okK (K:SV->(zdP)->Nat->List Nat->Prop):Aft
 | .ok s,b,n,w=>K s b n w
 | .pan _,_,_,_=>False
def po (Γ:zdR) (A:AS) (o:Oper) (G:List (Nat×Bool):= []):Option (FuncId×List SV):=
 match o.guard,o.op with
 |none, .call c=>match c.callee with
  | .value _=>match target A.tm G c with
    |some (f,args)=>match Γ f with
     |none=>some (f,args)
     |some _=>none
    |none=>none
  |_=>none
 |_,_=>none
def ald (B C:zdQ) (n e:Nat):zdQ:=λk=>bif Nat.blt k n then B k else C (e+(k - n))
abbrev _root_.zdT:=Nat->Bool
def rL:Nat->(zdT)->Bool
 |0,_=>true
 |k+1,f=>f k&&rL k f
def S0 (P:Program) (A:AS) (t:TypeId) (x y:SV):Option (Bool×(zdP)×SV×List Nat):=
 match P.underlying t,y with
 |some (.slice el), .slc j e m=>match P.info? el,A.bl j with
  |some inf,some C=>match C.kd with
   | .gone=>none
   |_=>bif Nat.beq C.sz inf.size&&Nat.ble 1 inf.size&&Nat.ble 1 inf.bytes&&(match inf.zero with
     |some z=>Nat.beq z.cells.size inf.size
     |none=>false) then(match x with
    | .val (.slice none 0 0)=>some (decide (0<m)&&decide (e+m<=C.n)&&decide (m*inf.bytes<=140737488355328)&&rL m (λk=>(C.get (e+k)).all SV.one),upd A.bl A.nx {n:=m,sz:=C.sz,get:=λk=>C.get (e+k),kd:= .own}, .slc A.nx 0 m, [])
    | .slc i 0 n=>match A.bl i with
      |some B=>match B.kd with
       | .own=>bif Nat.beq B.sz C.sz&& !Nat.beq i j then
          some (decide (0<m)&&decide (e+m<=C.n)&&decide (n<=B.n)&&decide ((n+m)*inf.bytes<=140737488355328)&&rL m (λk=>(C.get (e+k)).all SV.one),
           upd (upd A.bl i {B with kd:= .gone}) A.nx {n:=n+m,sz:=C.sz,get:=ald B.get C.get n e,kd:= .own}, .slc A.nx 0 (n+m), [i]) else none
       |_=>none
      |none=>none
    |_=>none) else none
  |_,_=>none
 |_,_=>none
def ac6 (A:AS) (o:Oper):Option (TypeId×SV×SV):=
 match o.guard,o.op with
 |none, .call c=>match c.callee with
  | .builtin .append=>match c.argTypes.toList,evs A.tm [] c.args.toList with
    | [t,t'],some [x,y]=>bif Nat.beq t t' then some (t,x,y) else none
    |_,_=>none
  |_=>none
 |_,_=>none
def B5:Value->Option Bool
 | .slice none _ _=>some false
 | .nilFunc=>some true
 |_=>none
inductive XOp where
 |nil (t:TypeId) (b f:Bool) (x:SV)
 |panic (v:Value)
 |iface (t:TypeId) (v:Value)
 |mk (t:TypeId)
 |set (t:TypeId) (i:Nat) (k v:SV)
 |rng (t:TypeId) (i:Nat)
 |nxt (i:Nat)
 |ent (i:Nat)
def uq (A:AS) (o:Oper):Option XOp:=
 match o.guard,o.op with
 |none, .panic x=>match ev A.tm [] x with
  |some (.val (.iface t v))=>some (.panic (.iface t v))
  |_=>none
 |none, .makeInterface t x=>match ev A.tm [] x with
  |some (.val v)=>some (.iface t v)
  |_=>none
 |none, .makeMap t none=>some (.mk t)
 |none, .range t m=>match ev A.tm [] m with
  |some (.mp i)=>some (.rng t i)
  |_=>none
 |none, .next x false=>match ev A.tm [] x with
  |some (.ptr i 0 0)=>some (.nxt i)
  |_=>none
 |none, .entry x=>match ev A.tm [] x with
  |some (.ptr i 0 0)=>some (.ent i)
  |_=>none
 |none, .insert t m k v=>match ev A.tm [] m,ev A.tm [] k,ev A.tm [] v with
  |some (.mp i),some k,some v=>some (.set t i k v)
  |_,_,_=>none
 |none, .mapUpdate t m k v=>match ev A.tm [] m,ev A.tm [] k,ev A.tm [] v with
  |some (.mp i),some k,some v=>some (.set t i k v)
  |_,_,_=>none
 |none, .binOp op t x (.const y) _=>match op,ev A.tm [] x,B5 y with
  | .eql,some x,some f=>some (.nil t true f x)
  | .neq,some x,some f=>some (.nil t false f x)
  |_,_,_=>none
 |_,_=>none
def Pm (P:Program) (t:TypeId):Option BK:=
 match P.underlying t with
 |some (.map k e)=>match P.underlying k,P.underlying e with
  |some (.int .i64),some (.int .i64)=>some .mpI
  |some (.int .i64),some .bool=>some .mpB
  |some _,some _=>some .mpL
  |_,_=>none
 |_=>none
def J9 (get:zdQ) (k:Nat) (v:zdN):zdQ:=λe=>bif Nat.beq e k then v else get e
def Nw (get:zdQ) (k:Nat) (z:Int):zdQ:=λe=> [.val (.int .i64 (bif Nat.beq e k then z else iG (get e)))]
def Gc (get:zdQ) (k:Nat):zdQ:=λe=> [.val (.bool (Nat.beq e k||su (get e)))]
def pa:BK->Bool
 | .own=>true
 | .old=>true
 |_=>false
def Gd (bl:zdP) (nx:Nat):Bool:=(List.range nx).all λj=>match bl j with
 |some B=> !B.kd.it
 |none=>true
def rM (get:zdQ):zdQ
 |0=> []
 |e+1=>match get e with
  | [k,v]=> [.val (.bool true),k,v]
  |_=> []
def MU (get:zdQ):zdQ
 |0=> []
 |e+1=> [.val (.bool (su (get e)))]
def Nx:List SV->zdN
 |_::r=> .val (.bool false)::r
 | []=> []
def nN (get:zdQ) (i:Nat) (k v:SV):zdQ
 |0=> [k,v]
 |e+1=>bif Nat.beq e i then Nx (get (e+1)) else get (e+1)
def Ka (get:zdQ) (z:Int):zdQ
 |0=> [.val (.int .i64 z), .val (.bool true)]
 |e+1=> [.val (.bool (!Nat.beq e z.toNat&&su (get (e+1))))]
def Ge (get:zdQ):Nat->Nat->Option (List (Bool×SV×SV))
 |0,_=>none
 |n+1,e=>match get e with
  | []=>some []
  | [.val (.bool b),k,v]=>(Ge get n (e+1)).map ((b,k,v):: ·)
  |_=>none
abbrev _root_.zdU:=SV->Prop
def Gf:List (Bool×SV×SV)->Nat->(Nat->SV->zdU)->Prop
 | [],_,_=>True
 |(b,k,v)::r,e,F=>ag b (F e k v) True/\Gf r (e+1) F
def runX (P:Program) (bl:zdP) (nx:Nat):XOp->Aft->Prop
 | .panic v,K=>K (.pan v) bl nx []
 | .iface t v,K=>match P.underlying t with
   |some (.interface _)=>False
   |some _=>K (.ok (.val (.iface t v))) bl nx []
   |none=>False
 | .mk t,K=>match Pm P t with
   |some kd=>K (.ok (.mp nx)) (upd bl nx {n:=0,sz:=0,get:=λ_=> [],kd:=kd}) (nx+1) [nx]
   |none=>False
 | .set t i k v,K=>match P.underlying t,bl i with
   |some (.map kt _),some B=>match B.kd with
    | .mpL=>match Aa B.get 64 0 with
      |some l=>match Gb P kt k l,keq P kt k k with
       |some b,some _=>af (Gd bl nx&&(b&&Nat.blt l.length 64)) (K (.ok (.val undef)) (upd bl i {B with get:=J9 B.get l.length [k,v]}) nx [i])
       |_,_=>False
      |none=>False
    | .mpI=>match P.underlying kt,k,v with
      |some (.int .i64), .val (.int .i64 k), .val (.int .i64 v)=>af (Gd bl nx&&decide (0<=k)) (K (.ok (.val undef)) (upd bl i {B with get:=Nw B.get k.toNat v}) nx [i])
      |_,_,_=>False
    | .mpB=>match P.underlying kt,k,v with
      |some (.int .i64), .val (.int .i64 k), .val (.bool v)=>af (Gd bl nx&&(v&&decide (0<=k))) (K (.ok (.val undef)) (upd bl i {B with get:=Gc B.get k.toNat}) nx [i])
      |_,_,_=>False
    |_=>False
   |_,_=>False
 | .rng t i,K=>match P.underlying t,bl i with
   |some (.map _ _),some B=>match B.kd with
    | .mpL=>K (.ok (.ptr nx 0 0)) (upd bl nx {n:=0,sz:=0,get:=rM B.get,kd:= .itL}) (nx+1) [nx]
    | .mpB=>K (.ok (.ptr nx 0 0)) (upd bl nx {n:=0,sz:=0,get:=MU B.get,kd:= .itK}) (nx+1) [nx]
    |_=>False
   |_,_=>False
 | .nxt i,K=>match bl i with
   |some B=>match B.kd with
    | .itL=>match Ge (λe=>B.get (e+1)) 65 0 with
      |some l=>ag (l.any (·.1)) True (K (.ok (.tup [.val (.bool false)])) (upd bl i {B with kd:= .gone}) nx [i])/\
       Gf l 0 λe k v=>K (.ok (.tup [.val (.bool true),k,v])) (upd bl i {B with get:=nN B.get e k v}) nx [i]
      |none=>False
    | .itK=>((∀k,su (B.get (k+1))=false)->K (.ok (.tup [.val (.bool false)])) (upd bl i {B with kd:= .gone}) nx [i])/\
      ∀z:Int,0<=z->su (B.get (z.toNat+1))=true->K (.ok (.tup [.val (.bool true), .val (.int .i64 z), .val (.bool true)])) (upd bl i {B with get:=Ka B.get z}) nx [i]
    |_=>False
   |none=>False
 | .ent i,K=>match bl i with
   |some B=>bif B.kd.it then(match B.get 0 with
    | [k,v]=>K (.ok (.tup [k,v])) bl nx []
    |_=>False) else False
   |none=>False
 | .nil t b f x,K=>match P.underlying t,f,x with
   |some (.slice _),false, .slc i _ _=>match bl i with
    |some B=>af (B.nn&&pa B.kd) (K (.ok (.val (.bool (!b)))) bl nx [])
    |none=>False
   |some (.slice _),false, .val (.slice none _ _)=>K (.ok (.val (.bool b))) bl nx []
   |some (.func _ _ _),true, .fn _ _ _=>K (.ok (.val (.bool (!b)))) bl nx []
   |some (.func _ _ _),true, .val .nilFunc=>K (.ok (.val (.bool b))) bl nx []
   |_,_,_=>False
def Gg (A:AS) (o:Oper):Option (FuncId×List SV×List SV):=
 match o.guard,o.op with
 |none, .defer c=>match c.callee with
  | .value f=>match ev A.tm [] f,evs A.tm [] c.args.toList with
    |some (.fn (.func g) first caps),some args=>some (g,first++args,caps)
    |_,_=>none
  |_=>none
 |_,_=>none
def kQ (P:Program) (Γ:zdR) (inl:Inl) (A:AS) (o:Oper) (G:List (Nat×Bool):= []):Option (Aft->Prop):=
 match uq A o with
 |some x=>some (runX P A.bl A.nx x)
 |none=>match ac6 A o with
  |some (t,x,y)=>some λK=>match S0 P A t x y with
   |some (b,bl,r,k)=>af b (K (.ok r) bl (A.nx+1) (A.nx::k))
   |none=>False
  |none=>match po Γ A o G with
   |some (f,args)=>some (inl f args A.bl A.nx [])
   |none=>none
abbrev _root_.zdV:=AS->Prop
def uR (A:AS) (d:Option Tmp) (KP:Value->zdV) (K:List Nat->zdV):Aft
 | .ok r,bl,nx,wl=>match putD {A with bl:=bl,nx:=nx,wl:=wl++A.wl} d (.v r) with
   |some A'=>K wl A'
   |none=>False
 | .pan v,bl,nx,wl=>KP v {A with bl:=bl,nx:=nx,wl:=wl++A.wl}
def uU (P:Program) (t:TypeId) (k:SV) (K:Option SV->Prop):List (SV×SV)->Prop
 | []=>K none
 |(k',v)::r=>match keq P t k k' with
  |some b=>ag b (K (some v)) (uU P t k K r)
  |none=>False
def R4 (P:Program) (A:AS) (o:Oper):Option ((zdU)->Prop):=
 match o.guard,o.op with
 |none, .lookup t m k ok=>match ev A.tm [] m,ev A.tm [] k,P.underlying t with
  |some (.mp i),some k,some (.map kt et)=>match A.bl i,(P.info? et).bind (·.zero) with
   |some B,some z=>match B.kd with
    | .mpL=>match Aa B.get 64 0,keq P kt k k with
      |some l,some _=>some λK=>uU P kt k (λr=>match r with
       |some v=>K (am5 ok v true)
       |none=>K (am5 ok (ofV z) false)) l
      |_,_=>none
    |_=>none
   |_,_=>none
  |_,_,_=>none
 |_,_=>none
structure Kept2 (b g:Nat) (w w':World):Prop where
 os:w'.os=w.os
 tape:w'.tape=w.tape
 output:w'.output=w.output
 size:w.heap.size<=w'.heap.size
 block: ∀k,k<w.heap.size->k≠b->k≠g->w'.heap[k]? =w.heap[k]?
structure BAtOK (P:Program) (d:BD) (at':Nat->Nat->ByteArray->World->Prop):Prop where
 zero:xX P d.tb=some [.val (.pointer none), .val (.slice none 0 0)]
 fresh: ∀w:World,at' w.heap.size w.heap.size ⟨#[]⟩ (w.alloc (.cells #[.pointer none, .slice none 0 0] d.tb))
 keep: ∀b g t (w w':World),at' b g t w->w'.heap[b]? =w.heap[b]? ->w'.heap[g]? =w.heap[g]? ->at' b g t w'
 lt: ∀b g t (w:World),at' b g t w->b<w.heap.size/\g<w.heap.size/\ ∀es c,w.heap[b]? ≠some (.map es c)/\w.heap[g]? ≠some (.map es c)
 write: ∀b g t s (w:World),at' b g t w->t.size+s.size<=1099511627776->Calls P d.write #[.pointer (some ⟨b,0,none⟩), .string s] w λe w'=>e= .returned (.tuple #[.int .i64 s.size, .nilIface])/\ ∃g',at' b g' (t++s) w'/\(g'=g\/w.heap.size<=g')/\Kept2 b g w w'
 str: ∀b g t (w:World),at' b g t w->1<=t.size->Calls P d.str #[.pointer (some ⟨b,0,none⟩)] w λe w'=>e= .returned (.string t)/\Kept2 b g w w'
 cw: ∀(args:Array Value) (w:World),(callFunc d.write args).run P w= .ok (.enter d.write args) w
 cs: ∀(args:Array Value) (w:World),(callFunc d.str args).run P w= .ok (.enter d.str args) w
def ahr (P:Program) (d:BD):Prop:= ∃at',BAtOK P d at'
def zP:Blk:={n:=0,sz:=2,get:=λ_=> [],kd:= .gone}
def adW (A:AS) (o:Oper):Option (BD×Bool×Option AS):=match A.sd.1 with
 |none=>none
 |some d=>match o.guard,o.op with
  |none, .alloc t=>bif Nat.beq t d.tb then some (d,(match A.sd.2 with
    |none=>fresh A A.nx&&o.dst.isSome
    |some _=>false),putD {A with bl:=upd A.bl A.nx zP,nx:=A.nx+1,wl:=A.nx::A.wl,sd:=(some d,some (A.nx,⟨#[]⟩))} o.dst (.v (.ptr A.nx 0 0))) else none
  |none, .call c=>match target A.tm [] c,A.sd.2 with
   |some (f,args),some (x,t)=>bif Nat.beq f d.write then(match args with
     | [.ptr i 0 0, .val (.string s)]=>some (d,Nat.beq i x&&decide (t.size+s.size<=1099511627776),putD {A with sd:=(some d,some (x,t++s))} o.dst (.v (.tup [.val (.int .i64 s.size), .val .nilIface])))
     |_=>none)
    else bif Nat.beq f d.str then(match args with
     | [.ptr i 0 0]=>some (d,Nat.beq i x&&decide (1<=t.size),putD {A with sd:=(some d,none)} o.dst (.v (.val (.string t))))
     |_=>none)
    else none
   |_,_=>none
  |_,_=>none
def agn (P:Program) (Γ:zdR) (inl:Inl) (ops:zdS) (KP:Value->zdV) (o:Oper) (A:AS) (K:zdV):Prop:=
 match Gg A o with
 |some d=>(match putD {A with df:=d::A.df} o.dst (.v (.val undef)) with
  |some A'=>K A'
  |none=>False)
 |none=>match R4 P A o with
  |some T=>T λs=>(match putD A o.dst (.v s) with
   |some A'=>K A'
   |none=>False)
  |none=>match kQ P Γ inl A o with
  |some T=>T (uR A o.dst KP λ_ A'=>K A')
  |none=>match step P Γ ops A.nx o A with
   |some (b,A',f)=>af b (K {A' with nx:=A'.nx+1,wl:=f.2++A'.wl})
   |none=>False
def aeq (P:Program) (Γ:zdR) (inl:Inl) (ops:zdS) (KP:Value->zdV) (o:Oper) (A:AS) (K:zdV):Prop:=
 match adW A o with
 |some (d,b,r)=>ahr P d/\af b (match r with
  |some A'=>K A'
  |none=>False)
 |none=>agn P Γ inl ops KP o A K
def nO (Γ:zdR) (A:AS) (ops:List Oper):Nat->Operand->Bool
 |0,_=>false
 |k+1,x=>match x with
  | .func f=>(Γ f).isSome
  | .tmp t=>match ops.find? λo=>match o.dst with
     |some d=>Nat.beq d t
     |none=>false with
    |some o=>match o.op with
     | .move y=>nO Γ A ops k y
     | .assign y=>nO Γ A ops k y
     |_=>false
    |none=>match A.tm t with
     | .v (.fn (.func f) _ _)=>(Γ f).isSome
     |_=>false
  |_=>false
def QC (Γ:zdR) (A:AS) (ops:List Oper):Op->Bool
 | .call c=>match c.callee with
   | .builtin .append=>true
   | .builtin _=>false
   | .value f=> !nO Γ A ops 9 f
   |_=>true
 | .panic _=>true
 | .makeInterface _ _=>true
 | .makeMap _ _=>true
 | .insert _ _ _ _=>true
 | .mapUpdate _ _ _ _=>true
 | .store _ _ _=>true
 | .alloc _=>true
 | .box _ _=>true
 | .buildSlice _ _ _=>true
 |_=>false
def Gh (Γ:zdR) (A:AS) (ops:zdS) (o:Oper):Option (Nat×Bool):=
 match o.guard with
 |some (j,b)=>match (ops.toList[j]?).bind (·.dst) with
  |some t=>bif A.lit.any (Nat.beq t)||QC Γ A ops.toList o.op then some (t,b) else none
  |none=>none
 |none=>none
def mH (A:AS) (t:Nat) (c:Bool):AS:={A with
 tm:=λx=>bif Nat.beq x t then .v (.val (.bool c)) else match A.tm x with
  | .opt u b s=>bif Nat.beq u t then .v (bif (bif b then c else !c) then s else .val undef) else .opt u b s
  |v=>v
 lit:=t::A.lit}
def aaQ:Nat->AS->Nat->(zdV)->Prop
 |0,_,_,_=>False
 |k+1,A,t,K=>match A.tm t with
  | .v (.val (.bool c))=>bif A.lit.any (Nat.beq t) then K A else ag c (K (mH A t true)) (K (mH A t false))
  | .v _=>K A
  | .opt u _ _=>aaQ k A u λA'=>aaQ k A' t K
  | .dead=>False
def wm (A:AS) (t:Nat) (b:Bool) (d:Option Tmp) (T:zdV) (K:zdV):Prop:=
 match A.tm t with
 | .v (.val (.bool c))=>ag (bif b then c else !c) (T A) (match putD A d (.v (.val undef)) with
   |some A'=>K A'
   |none=>False)
 | .v _=>(match putD A d (.v (.val undef)) with
   |some A'=>K A'
   |none=>False)
 |_=>False
def mI (P:Program) (Γ:zdR) (inl:Inl) (ops:zdS) (KP:Value->zdV):List Oper->AS->(zdV)->Prop
 | [],A,K=>K A
 |o::rest,A,K=>match Gh Γ A ops o with
  |some (t,b)=>aaQ 9 A t λA'=>wm A' t b o.dst (λA'=>aeq P Γ inl ops KP {o with guard:=none} A' λA'=>mI P Γ inl ops KP rest A' K) λA'=>mI P Γ inl ops KP rest A' K
  |none=>aeq P Γ inl ops KP o A λA'=>mI P Γ inl ops KP rest A' K
structure Hst where
 ef:Bool
 rd:List Nat
 wr:List Nat
 nx:Nat
def dc (h:Nat->Option Hst) (i:Nat) (e:Hst):Nat->Option Hst:=λj=>bif Nat.beq j i then some e else h j
def smallF (o:Oper):Bool:=match o.op with
 | .call _=>false
 | .panic _=>false
 | .makeInterface _ _=>false
 | .makeMap _ _=>false
 | .insert _ _ _ _=>false
 | .mapUpdate _ _ _ _=>false
 | .range _ _=>false
 | .next _ _=>false
 | .entry _=>false
 | .binOp _ _ _ _ _=>false
 |_=>true
def okM (ops:zdS) (pre:Nat->zdL) (h:Nat->Option Hst) (i:Nat) (ef:Bool) (rd wr:zdL):Bool:=
 (pre i).all λx=>bK ops.toList ops.size i x||match h x,ops.toList[x]?,ops.toList[i]? with
   |none,_,_=>true
   |some e,some ox,some oi=>Oper.apart ops ox oi&& !(ef&&e.ef)&& !jT wr e.rd&& !jT e.wr rd&&(!e.ef||smallF ox||rd.all λj=>Nat.blt j e.nx)
   |some _,_,_=>false
def jU (o:Oper):Oper:={o with guard:=none}
def rN (A:AS) (ops:zdS) (o:Oper):Option Bool:=match o.guard with
 |none=>some true
 |some (j,b)=>match (ops.toList[j]?).bind (·.dst) with
  |some t=>match A.tm t with
   | .v (.val (.bool x))=>some (x==b)
   |_=>none
  |none=>none
def Gi (ops:zdS) (o:Oper):List (Nat×Bool):=match o.guard with
 |none=> []
 |some (j,b)=>match (ops.toList[j]?).bind (·.dst) with
  |some t=> [(t,b)]
  |none=> []
def eK (P:Program) (Γ:zdR) (inl:Inl) (ops:zdS) (A:AS) (o:Oper):Option (Aft->Prop):=match o.guard with
 |none=>kQ P Γ inl A o
 |some _=>match kQ P Γ inl A (jU o) (Gi ops o) with
  |some T=>match rN A ops o with
   |some g=>some λK=>cond g (T K) (K (.ok (.val undef)) A.bl A.nx [])
   |none=>none
  |none=>none
def opT (P:Program) (Γ:zdR) (inl:Inl) (ops:zdS) (A:AS) (o:Oper) (KP:Value->zdV) (K:Bool->List Nat->List Nat->zdV):Prop:=
 match eK P Γ inl ops A o with
 |some T=>T (uR A o.dst KP λwl A'=>K true [] wl A')
 |none=>match step P Γ ops A.nx o A with
  |some (b,A',f)=>af b (match f.2 with
   | []=>K false f.1 [] A'
   |j::l=>K true f.1 (j::l) {A' with nx:=A'.nx+1,wl:=(j::l)++A'.wl})
  |none=>False
def qE (ops:zdS) (i:Nat):Bool:=(List.range ops.size).all λx=>Nat.beq x i||(bif Nat.blt x i then bK ops.toList ops.size i x else bK ops.toList ops.size x i)
def noP:Value->zdV:=λ_ _=>False
def acO (A:AS):AS:={A with tm:=λ_=> .dead,og:=λ_=>false,ok:=λ_=>false,lit:= []}
def Du (ops:zdS) (x i:Nat):Bool:= !Nat.beq x i&& !bK ops.toList ops.size x i&& !bK ops.toList ops.size i x
def dz (ops:zdS) (i:Nat):Bool:=match ops.toList[i]? with
 |some o=> !smallF o
 |none=>true
def ckM (m:Bool) (ops:zdS) (i:Nat) (ef:Bool):Bool:= !m|| !(ef&&(List.range ops.size).any λc=>Du ops i c&&dz ops c)
def eD (P:Program) (Γ:zdR) (inl:Inl) (ops:zdS) (pre:Nat->zdL) (m:Bool) (KN KP:Value->zdV):List Nat->AS->(Nat->Option Hst)->(zdV)->Prop
 | [],A,_,K=>K A
 |i::rest,A,h,K=>match ops.toList[i]? with
  |none=>False
  |some o=>opT P Γ inl ops A o (bif qE ops i then KP else KN) λef rd wr A'=>af (okM ops pre h i ef rd wr&&ckM m ops i ef) (eD P Γ inl ops pre m KN KP rest A' (dc h i ⟨ef,rd,wr,bif ef then A.nx else 0⟩) K)
def Ny (o:Oper):Bool:=match o.guard,o.op with
 |none, .alloc _=>true
 |none, .box _ _=>true
 |none, .buildSlice _ _ _=>true
 |none, .store _ _ _=>true
 |_,_=>false
def Gj (ops:zdS):List (Nat×Nat):=(List.range ops.size).flatMap λc=>bif dz ops c then((List.range ops.size).filter λi=> !Nat.beq i c&& !bK ops.toList ops.size i c&& !bK ops.toList ops.size c i&&match ops.toList[i]? with
 |some o=>Ny o
 |none=>false).map λa=>(c,a) else []
def Gk (ops:zdS):Option (Nat×Nat):=match Gj ops with
 | [(c,a)]=>bif (List.range ops.size).all (λi=>Nat.beq i c|| !dz ops i||bK ops.toList ops.size i c||bK ops.toList ops.size i a) then some (c,a) else none
 |_=>none
def DF (ops:zdS) (q:Nat):zdL:=(List.range ops.size).filter (λx=> !Nat.beq x q&& !bK ops.toList ops.size x q)++q::(List.range ops.size).filter (λx=>bK ops.toList ops.size x q)
def Kb (L:zdL) (p q:Nat):Nat->zdL:=λi=>(L.takeWhile λx=> !Nat.beq x i).filter λx=> !(Nat.beq i q&&Nat.beq x p)
def Gl (x:Nat) (L:zdL):Bool:=L.any (Nat.beq x)
def Nz (ops:zdS) (pre:Nat->zdL) (p q x y:Nat):Bool:=(Gl x (pre y)||(Nat.beq x p&&Nat.beq y q))&& !Gl y (pre x)&&(Nat.blt x y|| !bK ops.toList ops.size x y)&& !Nat.beq x y
def pwB (r:Nat->zdT):List Nat->Bool
 | []=>true
 |x::l=>l.all (r x)&&pwB r l
def okP (ops:zdS) (L:zdL) (p q:Nat):Bool:=pwB (Nz ops (Kb L p q) p q) L&&L.all (λx=>Nat.blt x ops.size)&&((List.range ops.size).all λx=>Gl x L)&&Nat.ble L.length ops.size
def aiS (Γ:zdR) (A:AS) (ops:List Oper) (o:Oper):Bool:=match o.op with
 | .call c=>match c.callee with
   | .builtin .append=>true
   | .builtin _=>false
   | .value f=> !nO Γ A ops 9 f
   |_=>true
 | .panic _=>true
 | .makeInterface _ _=>true
 | .makeMap _ _=>true
 | .insert _ _ _ _=>true
 | .mapUpdate _ _ _ _=>true
 | .range _ _=>true
 | .next _ _=>true
 | .entry _=>true
 | .binOp _ _ _ (.const y) _=>(B5 y).isSome
 |_=>false
def Ac (Γ:zdR) (A:AS) (ops:List Oper):Bool:=ops.any (aiS Γ A ops)
def adB (P:Program) (o:Oper):Bool:=match o.guard,o.op,o.dst with
 |none, .alloc t,some _=>(xX P t).isSome
 |_,_,_=>false
def atF (ops:zdS) (f:Oper->Bool) (i:Nat):Bool:=match ops.toList[i]? with
 |some o=>f o
 |none=>false
def akc (P:Program) (Γ:zdR) (A:AS) (ops:zdS):zdL:=(List.range ops.size).filter λm=>atF ops (adB P) m&&(List.range ops.size).any λc=>atF ops (aiS Γ A ops.toList) c&&Du ops m c
def aiB (Γ:zdR) (A:AS) (ops:zdS) (M:zdL):zdL:=(List.range ops.size).filter λc=> !Gl c M&&atF ops (λo=>aiS Γ A ops.toList o||Ny o) c&&M.any λm=>Du ops m c
def acP (ops:zdS) (M:zdL) (i:Nat):Bool:=M.any λm=>bK ops.toList ops.size i m
def aiT (ops:zdS) (M:zdL):zdL:=((List.range ops.size).filter λx=> !Gl x M&& !acP ops M x)++(M++(List.range ops.size).filter λx=> !Gl x M&&acP ops M x)
def aiU (L M C:zdL):Nat->zdL:=λi=>(L.takeWhile λx=> !Nat.beq x i).filter λx=> !(Gl i M&&Gl x C)
def aiV (ops:zdS) (pre:Nat->zdL) (M C:zdL) (x y:Nat):Bool:=(Gl y M&&Gl x C||Gl x (pre y)&& !Gl y (pre x)&&(Nat.blt x y|| !bK ops.toList ops.size x y))&& !Nat.beq x y
def aer (ops:zdS) (i:Nat):Option Nat:=(ops.toList[i]?).bind (·.dst)
def acg (ops:zdS) (x y:Nat):Bool:=match ops.toList[x]?,ops.toList[y]? with
 |some a,some b=>Oper.apart ops a b
 |_,_=>false
def okL (P:Program) (ops:zdS) (A:AS) (L M C:zdL):Bool:=pwB (aiV ops (aiU L M C) M C) L&&L.all (λx=>Nat.blt x ops.size)&&((List.range ops.size).all λx=>Gl x L)&&Nat.ble L.length ops.size&&
 ((List.range ops.size).all λi=>Gl i M||bif acP ops M i then C.all (λc=>bK ops.toList ops.size i c) else M.all λm=>acg ops m i)&&
 (M.all λm=> !acP ops M m&&atF ops (adB P) m&&(M.all λm'=>Nat.beq m m'||acg ops m m')&&match aer ops m with
   |some d=> !A.ok d&&Nat.blt d A.nt
   |none=>false)&&(C.all λc=> !Gl c M)
def isD (t:Nat):Option Nat->Bool
 |some d=>Nat.beq d t
 |none=>false
abbrev _root_.zdW:=List (Option Nat)
def acw (A:AS) (l:zdW):AS:={A with tm:=λt=>bif l.any (isD t) then .dead else A.tm t}
def ago (ops:zdS) (l:zdL) (i:Nat):Bool:= !Gl i l&&(List.range ops.size).all λx=> !bK ops.toList ops.size i x||Gl x l
def agp (ops:zdS):Nat->List Nat->zdL
 |0,l=>l.reverse
 |k+1,l=>match (List.range ops.size).find? λi=>ago ops l i&& !dz ops i with
  |some i=>agp ops k (i::l)
  |none=>match (List.range ops.size).find? (ago ops l) with
   |some i=>agp ops k (i::l)
   |none=>l.reverse
def aiW (L:zdL):Nat->zdL:=λi=>L.takeWhile λx=> !Nat.beq x i
def akd (ops:zdS) (pre:Nat->zdL) (x y:Nat):Bool:=Gl x (pre y)&& !Gl y (pre x)&& !bK ops.toList ops.size x y&& !Nat.beq x y&&(bK ops.toList ops.size y x||(!dz ops x&&acg ops x y))
def okS (ops:zdS) (L:zdL):Bool:=pwB (akd ops (aiW L)) L&&L.all (λx=>Nat.blt x ops.size)&&((List.range ops.size).all λx=>Gl x L)&&Nat.ble L.length ops.size
def aiC (A:AS) (ops:zdS):Option (Nat×Nat):=match A.sd.1 with
 |some _=>none
 |none=>Gk ops
def Gm (P:Program) (Γ:zdR) (inl:Inl) (ops:zdS) (KP:Value->zdV) (A:AS) (K:zdV):Prop:=match aiC A ops with
 |none=>match akc P Γ A ops with
  | []=>(match A.sd.1 with
    |none=>eD P Γ inl ops List.range false noP KP (List.range ops.size) A (λ_=>none) K
    |some _=>af (okS ops (agp ops ops.size [])) (eD P Γ inl ops (aiW (agp ops ops.size [])) true (λv A'=>KP v (acO A')) KP (agp ops ops.size []) A (λ_=>none) K))
  |m::M=>af (okL P ops A (aiT ops (m::M)) (m::M) (aiB Γ A ops (m::M)))
   (eD P Γ inl ops (aiU (aiT ops (m::M)) (m::M) (aiB Γ A ops (m::M))) false noP KP (aiT ops (m::M)) (acw A ((m::M).map (aer ops))) (λ_=>none) K)
 |some (c,a)=>af (okP ops (DF ops a) c a&&okP ops (DF ops c) a c)
  (eD P Γ inl ops (Kb (DF ops a) c a) false noP KP (DF ops a) A (λ_=>none) K/\eD P Γ inl ops (Kb (DF ops c) a c) false noP KP (DF ops c) A (λ_=>none) K)
def asZ (A:AS) (t:Nat) (c:Bool):AS:={A with tm:=λy=>bif Nat.beq y t then .v (.val (.bool c)) else A.tm y}
variable {A:AS}
theorem aso {t:Nat} {c:Bool} (h:A.tm t= .v (.val (.bool c))):asZ A t c=A:=by
 unfold asZ;have:(λy=>bif Nat.beq y t then TV.v (.val (.bool c)) else A.tm y)=A.tm:=funext λy=>by
  cases J:Nat.beq y t with
  |false=>rfl
  |true=>rw[zab J,zdu,h]
 rw[this]
def arK (Γ:zdR) (ops:zdS) (A:AS) (o:Oper):Option (Nat×Bool):=bif aiS Γ A ops.toList o then(match o.guard with
 |some (j,_)=>match (ops.toList[j]?).bind (·.dst) with
  |some t=>match A.tm t with
   | .v (.val (.bool x))=>some (t,x)
   |_=>none
  |none=>none
 |none=>none) else none
def asj (s:Option (Nat×Bool)) (A:AS) (F:zdV):Prop:=match s with
 |none=>F A
 |some (t,x)=>ag x (F (asZ A t true)) (F (asZ A t false))
variable {Γ:zdR} {ops:zdS}
theorem asb {o:Oper} (F:zdV):asj (arK Γ ops A o) A F=F A:=by
 cases h:arK Γ ops A o with
 |none=>rfl
 |some p=>
  obtain⟨t,x⟩:=p;have V:A.tm t= .v (.val (.bool x)):=by
   unfold arK at h;cases J:aiS Γ A ops.toList o with
   |false=>rw[J] at h;cases h
   |true=>
    rw[J,zdu] at h;split at h
    ·split at h
     ·split at h
      ·rename_i Y;simp only[za1,zag] at h;obtain⟨rfl,rfl⟩:=h;exact Y
      ·cases h
     ·cases h
    ·cases h
  have:=aso V;cases x with
  |true=>exact congrArg F this
  |false=>exact congrArg F this
def as0 (P:Program) (Γ:zdR) (inl:Inl) (ops:zdS) (pre:Nat->zdL) (m:Bool) (KN KP:Value->zdV):List Nat->AS->(Nat->Option Hst)->(zdV)->Prop
 | [],A,_,K=>K A
 |i::rest,A,h,K=>match ops.toList[i]? with
  |none=>False
  |some o=>asj (arK Γ ops A o) A λA=>opT P Γ inl ops A o (bif qE ops i then KP else KN) λef rd wr A'=>af (okM ops pre h i ef rd wr&&ckM m ops i ef) (as0 P Γ inl ops pre m KN KP rest A' (dc h i ⟨ef,rd,wr,bif ef then A.nx else 0⟩) K)
theorem ask {P:Program} {Γ:zdR} {inl:Inl} {ops:zdS} {pre:Nat->zdL} {m:Bool} {KN KP:Value->zdV}: ∀(L:zdL) (A:AS) (h:Nat->Option Hst) (K:zdV),as0 P Γ inl ops pre m KN KP L A h K=eD P Γ inl ops pre m KN KP L A h K
 | [],_,_,_=>rfl
 |i::J,A,h,K=>by
  unfold as0 eD;cases ops.toList[i]? with
  |none=>rfl
  |some o=>
   dsimp only;rw[asb];simp only[ask J]
def atn (st:Bool) (P:Program) (Γ:zdR) (inl:Inl) (ops:zdS) (KP:Value->zdV) (A:AS) (K:zdV):Prop:=match st with
 |false=>Gm P Γ inl ops KP A K
 |true=>match aiC A ops,akc P Γ A ops,A.sd.1 with
  |none, [],none=>as0 P Γ inl ops List.range false noP KP (List.range ops.size) A (λ_=>none) K
  |_,_,_=>Gm P Γ inl ops KP A K
theorem asl {st:Bool} {P:Program} {inl:Inl} {KP:Value->zdV} {K:zdV}:atn st P Γ inl ops KP A K=Gm P Γ inl ops KP A K:=by
 cases st with
 |false=>rfl
 |true=>
  unfold atn;dsimp only;split
  ·rename_i h1 h2 h3;unfold Gm;rw[h1];dsimp only;rw[h2];dsimp only;rw[h3];exact ask _ _ _ _
  ·rfl
def mJ (ops:zdS):Bool:=(List.range ops.size).all λi=>match ops.toList[i]? with
 |some o=>o.after.toList.all λe=> !Region.binds .any e||Nat.blt e.on i
 |none=>false
def alD:List ga->zdL
 | []=> []
 |f::r=>f.2++alD r
inductive Plc where
 |slot (t:Nat)
 |cell (id e o:Nat)
structure Gr (X:Type) where
 src:Plc
 sz:Nat
 n:X->Nat
 get:X->Nat->List SV
structure Ann where
 X:Type
 inv:X->Prop
 tm:X->List (Nat×SV)
 bk:List (Nat×(X->Nat->List SV)):= []
 st:List (Nat×(X->List SV)):= []
 gr:List (Gr X):= []
 mu:X->Nat
 keep:List Nat:= []
 clean: ∀p∈bk,∀x e,SV.idss (p.2 x e)= []:=by intro p hp x e;simp at hp
 sp:List (X->X):= []
 cleanG: ∀g∈gr,∀x e,SV.idss (g.get x e)= []:=by intro g hg x e;simp at hg
 sb:X->ByteArray:=λ_=>⟨#[]⟩
 bd:Option BD:=none
 fix:List (Nat×Nat×Nat×SV):= []
def NA {X:Type} (x:X):List (X->X)->Prop
 | []=>False
 |f::r=>f x=x\/NA x r
def Kd {X:Type} (T:(X->X)->Prop):List (X->X)->Prop
 | []=>True
 |f::r=>T f/\Kd T r
def DG (N:Ann) (T:N.X->Prop):Prop:=match N.sp with
 | []=> ∀x,N.inv x->T x
 |f::r=>(∀x,N.inv x->NA x (f::r))/\Kd (λg=> ∀x,N.inv (g x)->T (g x)) (f::r)
theorem ar2 {X:Type} {T:X->Prop} {I:X->Prop} {x:X} (J:I x): ∀{l:List (X->X)},NA x l->Kd (λg=> ∀x,I (g x)->T (g x)) l->T x
 | [],h,_=>h.elim
 |f::r,h,k=>by
  rcases h with h|h
  ·have:=k.1 x (by rw[h];exact J);rwa[h] at this
  ·exact ar2 J h k.2
theorem B6 {X:Type} {T:X->Prop} {I:X->Prop} (h: ∀x,I x->T x): ∀{l:List (X->X)},Kd (λg=> ∀x,I (g x)->T (g x)) l
 | []=>trivial
 |f::r=>⟨λx J=>h _ J,B6 h⟩
variable {N:Ann}
theorem rO {T:N.X->Prop} (h:DG N T): ∀x,N.inv x->T x:=by
 unfold DG at h;split at h
 ·exact h
 ·exact λx J=>ar2 J (h.1 x J) h.2
theorem Ke {T T':N.X->Prop} (h:DG N T) (k: ∀x,N.inv x->T' x):DG N T':=by
 unfold DG at h ⊢;split at h
 ·exact k
 ·exact⟨h.1,B6 k⟩
def x6:List (Nat×SV)->Nat->TV
 | [],_=> .dead
 |(u,s)::r,t=>bif Nat.beq t u then .v s else x6 r t
def adf (A:AS):List Nat->List (Nat×SV)
 | []=> []
 |t::r=>match A.tm t with
  | .v s=>(t,s)::adf A r
  |_=>adf A r
def Ann.all (N:Ann) (A:AS) (x:N.X):List (Nat×SV):=N.tm x++adf A N.keep
def x7 (A:AS) (l:List (Nat×SV)) (ks:zdL) (t:Nat):TV:=match x6 l t with
 | .v s=> .v s
 |_=>bif ks.any (Nat.beq t) then(match A.tm t with
  | .v s=> .v s
  |_=> .dead) else .dead
def QD (A:AS):Plc->Option SV
 | .slot t=>match A.tm t with
   | .v s=>some s
   |_=>none
 | .cell id e o=>match A.bl id with
   |some B=>(B.get e)[o]?
   |none=>none
def aiX {X:Type} (A:AS):List (Gr X)->Option (zdW)
 | []=>some []
 |g::r=>match QD A g.src,aiX A r with
  |some (.slc i 0 _),some l=>some (some i::l)
  |some (.val (.slice none 0 0)),some l=>some (none::l)
  |_,_=>none
def ck:List (Option Nat)->zdL
 | []=> []
 |some i::r=>i::ck r
 |none::r=>ck r
def killed (A:AS) (N:Ann):zdL:=match aiX A N.gr with
 |some l=>ck l
 |none=> []
def Pn (b:Nat) (rs:zdW) (i:Nat):Option (Option Nat):=bif Nat.blt i b then some (some i) else rs[i - b]?
mutual
def SV.ren (b:Nat) (rs:List (Option Nat)):SV->Option SV
 | .val v=>some (.val v)
 | .ptr id e o=>bif Nat.blt id b then some (.ptr id e o) else none
 | .mp id=>bif Nat.blt id b then some (.mp id) else none
 | .slc id e len=>match Pn b rs id with
   |some (some i)=>some (.slc i e len)
   |some none=>some (.val (.slice none len 0))
   |none=>none
 | .agg cs=>(SV.rens b rs cs).map .agg
 | .tup cs=>(SV.rens b rs cs).map .tup
 | .fn f a c=>match SV.rens b rs a,SV.rens b rs c with
   |some a,some c=>some (.fn f a c)
   |_,_=>none
def SV.rens (b:Nat) (rs:List (Option Nat)):List SV->Option (List SV)
 | []=>some []
 |x::xs=>match SV.ren b rs x,SV.rens b rs xs with
  |some y,some ys=>some (y::ys)
  |_,_=>none
end
def onB (b:Bool):List SV->zdN
 |_::r=> .val (.bool b)::r
 | []=> []
def abr (f get:zdQ):zdQ
 |0=> []
 |e+1=>onB (su (f (e+1))) (get (e+1))
def BK.sel (k:BK) (f get:zdQ):zdQ:=match k with
 | .itL=>abr f get
 |_=>f
def rP {X:Type} (bl:zdP) (x:X):List (Nat×(X->zdQ))->zdP
 | [],i=>bl i
 |(j,g)::r,i=>bif Nat.beq i j then(match bl i with
  |some B=>some {B with get:=B.kd.sel (g x) B.get}
  |none=>none) else rP bl x r i
def p7 {X:Type} (bl:zdP) (x:X):List (Nat×(X->zdN))->zdP
 | [],i=>bl i
 |(j,g)::r,i=>bif Nat.beq i j then(match bl i with
  |some B=>some {B with get:=λ_=>g x}
  |none=>none) else p7 bl x r i
def arD (bl:zdP) (ks:zdL) (i:Nat):Option Blk:=bif ks.any (Nat.beq i) then(match bl i with
 |some B=>some {B with kd:= .gone}
 |none=>none) else bl i
def grB {X:Type} (x:X):List (Gr X)->zdP
 | [],_=>none
 |g::_,0=>some {n:=g.n x,sz:=g.sz,get:=g.get x,kd:= .own,nn:=false}
 |_::r,i+1=>grB x r i
def cX (A:AS) (N:Ann) (x:N.X) (i:Nat):Option Blk:=
 bif Nat.blt i A.nx then rP (p7 (arD A.bl (killed A N)) x N.st) x N.bk i else grB x N.gr (i - A.nx)
def QI (A:AS) (N:Ann) (x:N.X):Option BD×Option (Nat×ByteArray):=match A.sd.2 with
 |none=>A.sd
 |some (i,_)=>(A.sd.1,some (i,N.sb x))
def bdE:Option BD->Option BD->Bool
 |some d,some e=>Nat.beq d.write e.write&&Nat.beq d.str e.str&&Nat.beq d.tb e.tb
 |_,_=>false
def aiD (A A':AS) (N:Ann) (x:N.X) (T:Prop):Prop:=match A.sd.2,A'.sd.2 with
 |none,none=>T
 |some (i,_),some (j,t)=>af (Nat.beq i j&&bdE A.sd.1 A'.sd.1) (t=N.sb x/\T)
 |_,_=>False
def rQ (A:AS) (N:Ann) (x:N.X):AS:={A with tm:=x7 A (N.tm x) N.keep,bl:=cX A N x,nx:=A.nx+N.gr.length,wl:= [],og:=λ_=>false,ok:=λ_=>false,df:= [],lit:= [],sd:=QI A N x}
def eqO (v:TV) (s:Option SV):Prop:=match s with
 |some s=>v= .v s
 |none=>False
def Gn (b:Nat) (rs:zdW) (A:AS):List (Nat×SV)->Prop
 | []=>True
 |(t,s)::r=>eqO (A.tm t) (s.ren b rs)/\Gn b rs A r
def NC:Nat->(Nat->Prop)->Prop
 |0,_=>True
 |k+1,f=>f k/\NC k f
def Gp {X:Type} (A0 A:AS) (x:X):List (Nat×(X->zdQ))->Prop
 | []=>True
 |(i,g)::r=>(match A.bl i with
  |some B=>match B.kd with
   | .gone=>False
   | .mpL=>False
   | .mpI=> ∀e,iG (B.get e)=iG (g x e)
   | .mpB=> ∀e,su (B.get e)=su (g x e)
   | .itK=>(∀e,su (B.get (e+1))=su (g x (e+1)))/\g x 0= []
   | .itL=>(match A0.bl i with
     |some B0=> ∀e,B.get (e+1)=abr (g x) B0.get (e+1)
     |none=>False)
   |_=>NC B.n λe=>B.get e=g x e
  |none=>False)/\Gp A0 A x r
def Gq {X:Type} (b:Nat) (rs:zdW) (A:AS) (x:X):List (Nat×(X->zdN))->Prop
 | []=>True
 |(i,g)::r=>(match A.bl i,SV.rens b rs (g x) with
  |some B,some cs=>match B.kd with
   | .gone=>False
   |_=>af (Nat.beq B.n 1) (B.get 0=cs)
  |_,_=>False)/\Gq b rs A x r
def B7 {X:Type} (A:AS) (x:X):List (Gr X)->List (Option Nat)->Prop
 | [], []=>True
 |g::r,some i::l=>(match A.bl i with
  |some B=>match B.kd with
   | .own=>af (Nat.beq B.sz g.sz&&decide (g.n x<=B.n)) (∀e,e<g.n x->B.get e=g.get x e)
   |_=>False
  |none=>False)/\B7 A x r l
 |g::r,none::l=>g.n x=0/\B7 A x r l
 |_,_=>False
def uV:List Nat->Bool
 | []=>true
 |i::r=> !(r.any (Nat.beq i))&&uV r
def B8 (first:Bool) (A A':AS) (N:Ann) (x:N.X):Prop:=match aiX A' N.gr with
 |none=>False
 |some rs=>af (uV (ck rs)&&(first||(ck rs).all (Nat.ble A.nx))&&(match A'.df with
  | []=>true
  |_=>false)) (aiD A A' N x (Gn A.nx rs A' (N.all A x)/\Gp A A' x N.bk/\Gq A.nx rs A' x N.st/\B7 A' x N.gr rs))
def Gs (nx:Nat) (wl:zdL) (ids:zdL):Bool:=wl.all λi=>Nat.ble nx i||ids.any (Nat.beq i)
def Ann.ids (N:Ann) (A:AS):zdL:=N.bk.map (·.1)++N.st.map (·.1)++killed A N
def lF:Code->Nat
 | .region id _ _=>id
 | .seq a _=>lF a
 | .block _ c=>lF c
 | .loop c=>lF c
 | .scope c=>lF c
 | .cond _ a _=>lF a
 |_=>0
def mK (body:(Exit->zdV)->zdV):Nat->(Exit->zdV)->zdV
 |0,_,_=>False
 |n+1,K,A=>body (λe A'=>match e with
  | .normal=>mK body n K A'
  |e=>K e A') A
def aes:List (Nat×Nat×Nat×SV)->AS->(zdV)->Prop
 | [],A,K=>K A
 |(i,e,o,s)::r,A,K=>match A.bl i with
  |some B=>(B.get e)[o]? =some s/\aes r {A with bl:=upd A.bl i (B.put e o [s])} K
  |none=>False
def MV (body:(Exit->zdV)->zdV) (N:Ann) (K:Exit->zdV) (A:AS):Prop:=
 ∃x0,N.inv x0/\B8 true A A N x0/\DG N λx=>
  body (λe A'=>match e with
   | .normal=>af (Gs A.nx A'.wl (N.ids A)) (∃x',N.inv x'/\N.mu x'<N.mu x/\B8 false A A' N x')
   |e=>aes N.fix {A' with wl:=N.ids A++A'.wl++A.wl} (K e)) (rQ A N x)
def vc (P:Program) (Γ:zdR) (inl:Inl) (ann:Nat->Option (AS->Ann)):Code->(Exit->zdV)->zdV
 | .skip,K,A=>K .normal A
 | .label _,K,A=>K .normal A
 | .seq a b,K,A=>vc P Γ inl ann a (λe A'=>match e with
   | .normal=>vc P Γ inl ann b K A'
   |e=>K e A') A
 | .cond c t f,K,A=>match ev A.tm [] c with
   |some (.val (.bool b))=>ag b (vc P Γ inl ann t K A) (vc P Γ inl ann f K A)
   |_=>False
 | .block id c,K,A=>vc P Γ inl ann c (λe A'=>match e with
   | .exit i=>bif Nat.beq i id then K .normal A' else K (.exit i) A'
   |e=>K e A') A
 | .loop c,K,A=>match ann (lF c) with
   |none=>mK (vc P Γ inl ann c) 40 K A
   |some N=>MV (vc P Γ inl ann c) (N A) K A
 | .scope c,K,A=>vc P Γ inl ann c (λe A'=>match e with
   | .goto _=>False
   |e=>K e A') A
 | .exit id,K,A=>K (.exit id) A
 | .ret,K,A=>K .ret A
 | .region _ ops draw,K,A=>bif draw then bif Ac Γ A ops.toList then
    af (mJ ops) (atn (ann 4294967294).isSome P Γ inl ops (λv A'=>K (pex v) (endG A')) A λA'=>K .normal (endG A'))
   else rK P Γ ops A.nx ops.toList 0 A [] λA' tr=>af (free ops ops.toList tr) (K .normal {endG A' with nx:=A.nx+ops.size,wl:=alD tr++A.wl})
   else mI P Γ inl ops (λv A'=>K (pex v) (endG A')) ops.toList A λA'=>K .normal (endG A')
 |_,_,_=>False
def ur (P:Program) (A:AS):List ResultVar->Option (Bool×List SV)
 | []=>some (true, [])
 | .tmp t::r=>match A.tm t,ur P A r with
   | .v s,some (b,l)=>some (b,s::l)
   |_,_=>none
 | .cell t ty::r=>match A.tm t,ur P A r with
   | .v s,some (b,l)=>match rH P A.bl ty s with
     |some E=>some (E.need&&b,E.out::l)
     |none=>none
   |_,_=>none
def auq:List SV->SV
 | [s]=>s
 |l=> .tup l
def fB (args:zdN) (nt:Nat) (bl:zdP) (nx:Nat) (wl:zdL) (hq:Bool):AS:=
 {tm:=λt=>match args[t]? with
   |some s=> .v s
   |none=>bif Nat.blt t nt then .v (.val undef) else .dead
  bl:=bl,nx:=nx,nt:=max args.length nt,wl:=wl,og:=λ_=>false,ok:=λ_=>false,hq:=hq}
def sa (an:Nat->Option (AS->Ann)) (A:AS):AS:=match an 4294967295 with
 |some F=>{A with sd:=((F A).bd,none)}
 |none=>A
abbrev _root_.zdX:=List Blk
def fv (bl:zdP) (nx:Nat) (l:zdX) (i:Nat):Option Blk:=bif Nat.blt i nx then bl i else l[i - nx]?
def chB (bl:zdP):List (Nat×Blk)->zdP
 | []=>bl
 |(i,B)::r=>upd (chB bl r) i B
def Po:BK->BK->Bool
 | .own, .own=>true
 | .old, .old=>true
 | .mpI, .mpI=>true
 | .mpB, .mpB=>true
 | .mpL, .mpL=>true
 | .gone,_=>true
 |_,_=>false
def x8 (bl:zdP):List (Nat×Blk)->Bool
 | []=>true
 |(i,B)::r=>(match bl i with
  |some C=>Nat.beq B.n C.n&&Nat.beq B.sz C.sz&&(B.nn==C.nn)&&Po B.kd C.kd
  |none=>false)&&x8 bl r
def ND (P:Program) (l:List ResultVar) (K:Aft) (A:AS):Prop:=match ur P A l with
 |some (b,l)=>af b (K (.ok (auq l)) A.bl A.nx A.wl)
 |none=>False
def qF (P:Program) (Δ:FuncId->Option DCtr) (l:List ResultVar) (K:Aft):List (FuncId×List SV×List SV)->Option Value->zdV
 | [],none,A=>ND P l K A
 | [],some v,A=>K (.pan v) A.bl A.nx A.wl
 |(f,as,cs)::ds,m,A=>match Δ f with
  |some k=>match k m A.bl (as++cs) with
   |some (b,m',ch)=>af (b&&x8 A.bl ch) (qF P Δ l K ds m' {A with bl:=chB A.bl ch,wl:=ch.map (·.1)++A.wl})
   |none=>False
  |none=>False
def gq (P:Program) (Δ:FuncId->Option DCtr) (l:List ResultVar) (K:Aft):Exit->zdV
 | .normal,A=>qF P Δ l K A.df none A
 | .ret,A=>qF P Δ l K A.df none A
 | .panic ch,A=>match ch with
   | [e]=>bif e.recovered||e.goexit then False else qF P Δ l K A.df (some e.v) A
   |_=>False
 |_,_=>False
def Pp:SV->Int->SV
 | .agg (.val (.int k _)::r),z=> .agg (.val (.int k z)::r)
 |x,_=>x
def NE:SV->Option Int
 | .agg (.val (.int _ z)::_)=>some z
 |_=>none
def Gt:List SV->Nat->Int->zdN
 | [],_,_=> []
 |x::l,0,z=>Pp x z::l
 |x::l,i+1,z=>x::Gt l i z
def Gu:List SV->Nat->Option Int
 | [],_=>none
 |x::_,0=>NE x
 |_::l,i+1=>Gu l i
def x9 (T:List SV->Bool->Prop) (args:zdN) (i:Nat) (z:Int):List Int->Prop
 | []=>T args true
 |n::r=>ag (z==n) (T (Gt args i n) false) (x9 T args i z r)
def spl (b:Bool) (T:List SV->Bool->Prop) (args:zdN):Prop:=match b with
 |true=>(match Gu args 1 with
  |some z=>x9 T args 1 z [1,2,3,4,5,6,7,8]
  |none=>False)
 |false=>T args false
def abC (bl:zdP) (nx:Nat) (wl:zdL) (K:Aft):Option RC->Prop
 |some C=>af (Gd bl nx&&C.pre) (∀x,C.spec x->af (x8 bl (C.ch x)) (K (C.res x) (fv (chB bl (C.ch x)) nx (C.nw x)) (nx+(C.nw x).length) ((C.ch x).map (·.1)++wl)))
 |none=>False
def abs (k:List SV->Option RC) (bl:zdP) (nx:Nat) (wl:zdL) (K:Aft):List SV->Prop
 | .val (.bool b)::r=>ag b (abC bl nx wl K (k (.val (.bool true)::r))) (abC bl nx wl K (k (.val (.bool false)::r)))
 |_=>False
abbrev _root_.zdY:=FuncId->Nat->Option (AS->Ann)
def wn (P:Program) (ok:FuncId->Bool) (Γ:zdR) (Γm:FuncId->Option MCtr) (Δ:FuncId->Option DCtr) (ann:zdY):Nat->Inl
 |0=>λ_ _ _ _ _ _=>False
 |n+1=>λf args bl nx wl K=>bif ok f then match Γm f with
  |some k=>(match (Γm (f+1073741824)).isSome with
   |true=>abs (k bl nx) bl nx wl K args
   |false=>abC bl nx wl K (k bl nx args))
  |none=>match P.funcs.toList[f]? with
  |some fn=>match fn.body with
   |some c=>spl (Γm (f+1073741824)).isSome (λargs hq=>vc P Γ (wn P ok Γ Γm Δ ann n) (ann f) c (gq P Δ fn.results.toList K) (sa (ann f) (fB args fn.ntmps bl nx wl hq))) args
   |none=>False
  |none=>False
  else False
abbrev wq (P:Program) (ok:FuncId->Bool) (Γ:zdR) (Γm:FuncId->Option MCtr) (ann:zdY):Nat->Inl:=wn P ok Γ Γm (λ_=>none) ann
end
section
variable {P:Program} (w:World)
def NF (β:zdM) (p:FuncId×List SV×List SV):Deferred:={target:= .fn (.func p.1) (SV.concs β p.2.2).toArray,args:=(SV.concs β p.2.1).toArray}
def WQ (β:zdM) (bl:zdP) (df:List (FuncId×List SV×List SV)) (ds:List Deferred):Prop:=ds=df.map (NF β)/\ ∀p∈df,∀s∈p.2.1++p.2.2,Live bl s
structure FR (β:Nat->Loc) (A:AS) (a:Act):Prop where
 defers:WQ β A.bl A.df a.defers
 size:a.tmps.size=A.nt
 v: ∀t s,A.tm t= .v s->a.tmps.getD t undef=s.conc β/\Live A.bl s
 opt: ∀t u b s,A.tm t= .opt u b s->(a.tmps.getD u undef= .bool b->a.tmps.getD t undef=s.conc β/\Live A.bl s)/\(a.tmps.getD u undef≠ .bool b->a.tmps.getD t undef=undef)
 os: ∀t u b s,A.tm t= .opt u b s->A.og t=true/\A.ok u=true
def DX (a:Act) (G:List (Nat×Bool)):Prop:= ∀p∈G,a.tmps.getD p.1 undef= .bool p.2
variable {G:List (Nat×Bool)}
theorem Gv {t:Nat} {b:Bool} (h:DC G t b=true):(t,b)∈G:=by
 induction G with
 |nil=>simp[DC] at h
 |cons p r V=>
  obtain⟨u,c⟩:=p;simp only[DC] at h;by_cases h1:(Nat.beq u t&&(bif c then b else !b))=true
  ·simp only[za2] at h1;have e1:=zab h1.1;have J:c=b:=by cases c<;>cases b<;>simp_all
   subst e1;subst J;simp
  ·simp only[zbc] at h1;simp only[h1,zdt] at h;exact zan _ (V h)
theorem bu {β:zdM} {A:AS} {a:Act} (h:FR β A a) (Z:DX a G) {x:Operand} {s:SV} (J:ev A.tm G x=some s):
 a.eval x=s.conc β/\Live A.bl s:=by
 cases x with
 |tmp t=>
  simp only[ev] at J;cases V:A.tm t with
  |dead=>simp[V] at J
  |v s'=>
   simp[V] at J;subst J;exact h.v t _ V
  |opt u b s'=>
   simp only[V] at J;cases Y:DC G u b with
   |false=>simp[Y] at J
   |true=>
    simp[Y] at J;subst J;obtain⟨h1,_⟩:=h.opt t u b _ V;exact h1 (Z _ (Gv Y))
 |const c=>simp[ev] at J;subst J;exact⟨(rE β c).symm,λi hi=>by rw[BX] at hi;cases hi⟩
 |global g=>simp[ev] at J;subst J;exact⟨rfl,λi hi=>by simp[SV.ids] at hi⟩
 |func f=>simp[ev] at J;subst J;exact⟨by simp[SV.conc,SV.concs,Act.eval],λi hi=>by simp[SV.ids,SV.idss] at hi⟩
theorem j0 {β:zdM} {A:AS} {a:Act} (h:FR β A a) {G:List (Nat×Bool)} (V:DX a G): ∀{xs:List Operand} {l:zdN},evs A.tm G xs=some l->
 xs.map a.eval=SV.concs β l/\ ∀s∈l,Live A.bl s
 | [],l,J=>by simp[evs] at J;subst J;simp[SV.concs]
 |x::xs,l,J=>by
  simp only[evs] at J;cases h1:ev A.tm G x with
  |none=>simp[h1] at J
  |some s=>
   cases h2:evs A.tm G xs with
   |none=>simp[h1,h2] at J
   |some r=>
    simp[h1,h2] at J;subst J;obtain⟨e1,Y⟩:=bu h V h1;obtain⟨Z,e4⟩:=j0 h V h2;exact⟨by simp[SV.concs,e1,Z],by simp[Y];exact e4⟩
theorem jf {β:zdM} {A:AS} {a:Act} (h:FR β A a) {G:List (Nat×Bool)} (Y:DX a G): ∀{xs:List (Nat×Operand)} {l:List (Nat×SV)},dJ A.tm G xs=some l->
 xs.map (λp=>(p.1,a.eval p.2))=l.map (λp=>(p.1,p.2.conc β))/\ ∀p∈l,Live A.bl p.2/\ ∀c,p.2≠ .val (.agg c)
 | [],l,J=>by simp[dJ] at J;subst J;simp
 |(i,x)::xs,l,J=>by
  simp only[dJ] at J;split at J
  ·cases J
  ·rename_i s r V h1 h2;simp at J;subst J;obtain⟨e1,Z⟩:=bu h Y h1;obtain⟨e3,e4⟩:=jf h Y h2;refine⟨by simp[e1,e3], ?_⟩;intro p hp;simp only[zai] at hp;rcases hp with rfl|hp
   ·exact⟨Z,λc hc=>V c (by simpa using hc)⟩
   ·exact e4 p hp
  ·cases J
theorem p8 {β:zdM} {A:AS} {a:Act} (h:FR β A a): ∀(k t:Nat) (b g:Bool),kO A.tm k t b=some g->(g=true↔a.tmps.getD t undef= .bool b)
 |0,t,b,g,J=>by simp[kO] at J
 |k+1,t,b,g,J=>by
  simp only[kO] at J;split at J
  ·rename_i c Y;simp at J;subst J;have:=(h.v t _ Y).1;rw[this];cases b<;>cases c<;>simp[SV.conc]
  ·rename_i t' b' c Y;split at J
   ·rename_i g' V;simp at J;subst J;have Z:=p8 h k t' b' g' V;obtain⟨h1,h2⟩:=h.opt t t' b' _ Y;constructor
    ·intro hh;simp only[za2] at hh;rw[(h1 (Z.1 hh.1)).1];cases b<;>cases c<;>simp_all [SV.conc]
    ·intro hh;by_cases hg:g'=true
     ·have:=(h1 (Z.1 hg)).1;rw[this] at hh;cases b<;>cases c<;>simp_all [SV.conc]
     ·have:=h2 (λe=>hg (Z.2 e));rw[this] at hh;simp[undef] at hh
   ·cases J
  ·cases J
theorem p9 {β:zdM} {A:AS} {a:Act} (h:FR β A a): ∀(k t:Nat) (b:Bool),a.tmps.getD t undef= .bool b->DX a (Xw A.tm k t b)
 |0,t,b,_=>by intro p hp;simp[Xw] at hp
 |k+1,t,b,V=>by
  intro p hp;simp only[Xw,zai] at hp;rcases hp with rfl|hp
  ·exact V
  ·split at hp
   ·rename_i Y J s Z;obtain⟨_,h2⟩:=h.opt t Y J s Z;by_cases hh:a.tmps.getD Y undef= .bool J
    ·exact p9 h k Y J hh p hp
    ·rw[h2 hh] at V;simp[undef] at V
   ·cases hp
section
variable {t:TypeId}
theorem nQ {b:Bool} (h:xW P t=some b):(isAgg t).run P w= .ok b w:=by
 unfold xW at h;split at h<;>simp at h<;>subst h<;>rename_i J<;>simp[isAgg,run_underlying J]
 all_goals (split<;>simp_all)
theorem eF {n:Nat} (h:szT P t=some n):(sizeOf t).run P w= .ok n w:=by
 unfold szT at h;cases hi:P.info? t with
 |none=>simp[hi] at h
 |some i=>simp[hi] at h;simp[sizeOf,typeInfo,hi,h]
variable {β:zdM} {cs:zdN}
theorem pb (h:xX P t=some cs): ∃v,(zeroValue t).run P w= .ok v w/\v.cells=(SV.concs β cs).toArray/\(∀s∈cs,s.ids= []):=by
 unfold xX at h;cases hi:P.info? t with
 |none=>simp[hi] at h
 |some i=>
  cases J:i.zero with
  |none=>simp[hi,J] at h
  |some v=>
   simp[hi,J] at h;subst h;refine⟨v,by simp[zeroValue,typeInfo,hi,J],by rw[uT], ?_⟩;intro s V;simp at V;obtain⟨x,_,rfl⟩:=V;simp[SV.ids]
theorem fC {off:Nat} {s:SV} (h:kj P t cs off=some s):(part t (SV.concs β cs).toArray off).run P w= .ok (s.conc β) w/\(∀i∈s.ids,i∈SV.idss cs):=by
 unfold kj at h;split at h
 ·rename_i n h1 h2;simp at h;subst h;refine⟨?_, ?_⟩
  ·simp only[part,zdI,nQ w h1,zdH,if_true,Sem.run_ite,eF w h2,zdJ,SV.conc]
   congr 2
   apply zaW;simp[SV.concs_eq,List.extract_eq_take_drop]
  ·intro i hi;simp only[SV.ids] at hi;obtain⟨x,J,hi⟩:=SV.mem_idss.1 hi;exact SV.mem_idss.2 ⟨x,zbD (zbd J),hi⟩
 ·rename_i h1;refine⟨?_,λi hi=>SV.mem_idss.2 ⟨s,zal h,hi⟩⟩;have:(SV.concs β cs).toArray[off]? =some (s.conc β):=by simp[SV.concs_eq,h]
  simp[part,nQ w h1,this]
 ·cases h
end
theorem ya {P:Program} {β:zdM} {f:TypeId->SV->SV->Option Bool} {d:Nat} (Y: ∀t x y b (w:World),f t x y=some b->(Op.equalIn d t (x.conc β) (y.conc β)).run P w= .ok b w) (xs V:zdN):
 ∀(fs:List Field) (b:Bool) (w:World),F4 P f xs V fs=some b->(Op.eqFields d (SV.concs β xs).toArray (SV.concs β V).toArray fs).run P w= .ok b w
 | [],b,w,h=>by simp[F4] at h;subst h;simp[Op.eqFields]
 |Z::fs,b,w,h=>by
  simp only[F4] at h;by_cases J:Z.name= "_"
  ·simp[J] at h
  ·simp only[J,decide_false,zdt] at h;split at h
   ·rename_i x y hx hy;split at h
    ·rename_i p q hp hq;simp at h;subst h;have ih:=ya Y xs V fs q w hq;simp only[Op.eqFields,ne_eq,J,not_false_eq_true,if_true,zdI,(fC w hx).1,(fC w hy).1,zdH,Y _ _ _ _ w hp,Sem.run_ite];cases p
     ·simp
     ·simp[ih]
    ·cases h
   ·cases h
theorem yb {P:Program} {β:zdM} {f:TypeId->SV->SV->Option Bool} {d:Nat} (V: ∀t x y b (w:World),f t x y=some b->(Op.equalIn d t (x.conc β) (y.conc β)).run P w= .ok b w) (e s:Nat) (xs J:zdN):
 ∀(n i:Nat) (b:Bool) (w:World),F5 P f e s xs J n i=some b->
  (forIn (m:=Sem) (List.range' i n) (none,()) (λj (r:Option Bool×Unit)=>do
    let a <-part e (SV.concs β xs).toArray (j*s)
    let c <-part e (SV.concs β J).toArray (j*s)
    let q <-Op.equalIn d e a c
    if (!q)=true then pure (ForInStep.done (some false,())) else pure (ForInStep.yield (none,())))).run P w= .ok (if b then none else some false,()) w
 |0,i,b,w,h=>by simp[F5] at h;subst h;simp
 |n+1,i,b,w,h=>by
  simp only[F5] at h;split at h
  ·rename_i x y Y Z;split at h
   ·rename_i p q hp hq;simp at h;subst h;have ih:=yb V e s xs J n (i+1) q w hq;simp only[List.range'_succ,List.forIn_cons,zdI,(fC w Y).1,(fC w Z).1,zdH,V _ _ _ _ w hp,Sem.run_ite];cases p
    ·simp
    ·simpa using ih
   ·cases h
  ·cases h
theorem pc {P:Program} {β:zdM}: ∀(d V:Nat) (t:TypeId) (x y:SV) (b:Bool) (w:World),d<=V->eqS P d t x y=some b->(Op.equalIn V t (x.conc β) (y.conc β)).run P w= .ok b w
 |0,V,t,x,y,b,w,_,h=>by simp[eqS] at h
 |d+1,0,t,x,y,b,w,hd,h=>by omega
 |d+1,V+1,t,x,y,b,w,hd,h=>by
  have ih:=λt x y b w=>pc (P:=P) (β:=β) d V t x y b w (by omega);simp only[eqS] at h;split at h
  ·rename_i J;split at h<;>simp at h;subst h;exact run_equalIn_bool' w V t _ _ J
  ·rename_i k J;split at h
   ·rename_i k1 a k2 c;cases hk:kEq k1 k2 with
    |false=>simp[hk] at h
    |true=>
     simp[hk] at h;subst h;have:=rF hk;subst this;exact run_equalIn_int w V t k1 k _ _ J
   ·cases h
  ·rename_i J;split at h<;>simp at h;subst h;rw[F3];exact run_equalIn_string w V t _ _ J
  ·rename_i fs J;split at h
   ·rename_i xs ys;cases Z:P.stoodInHeld t with
    |true=>simp[Z] at h
    |false=>
     simp[Z] at h;have Y:P.fieldsOf t=fs:=by simp[Program.fieldsOf,J]
     have:=run_equalIn_struct (P:=P) w V t (SV.concs β xs).toArray (SV.concs β ys).toArray (by rw[Y];exact J) Z;simp only[SV.conc,this,Y];exact ya (λt x y b w h=>ih t x y b w h) xs ys fs.toList b w h
   ·cases h
  ·rename_i n e J;split at h
   ·rename_i xs ys;split at h
    ·rename_i s Z;have:=yb (P:=P) (β:=β) (λt x y b w h=>ih t x y b w h) e s xs ys n 0 b w h;simp only[SV.conc,Op.equalIn,zdI,run_underlying J,zdH,eF w Z];rw[Std.Legacy.Range.forIn_eq_forIn_range'];simp only[Std.Legacy.Range.size,zaX,Nat.add_sub_cancel,Nat.div_one];rw[this];cases b<;>simp
    ·cases h
   ·cases h
  ·cases h
end
section
variable {P:Program} {β:zdM}
variable {op:BinOp} {k:IntKind} {n:Bool} {s:SV}
theorem Ad {k':IntKind} {a b:Int} (h:J7 op k k' a b=some (n,s)) (J:n=true) (t:TypeId) (w:World):
 (binOp op t (.int k a) (.int k' b)).run P w= .ok (s.conc β) w:=by
 unfold J7 at h;split at h
 ·simp at h;obtain⟨h1,h2⟩:=h;subst h1;subst h2;simp at J;have h0: ¬b<0:=by omega
  simp[binOp,Op.shift,h0,SV.conc,g9 J.2]
 ·simp at h;obtain⟨h1,h2⟩:=h;subst h1;subst h2;simp at J;have h0: ¬b<0:=by omega
  simp[binOp,Op.shift,h0,SV.conc]
 ·rename_i op h1 h2;cases V:kEq k k' with
  |false=>simp[V] at h
  |true=>
   have:=rF V;subst this;simp only[V,zdu] at h;split at h<;>simp only[za1,zag,reduceCtorEq] at h<;>(obtain⟨h3,h4⟩:=h;subst h3;subst h4)
   ·simp[binOp,Op.intArith,SV.conc,g9 J]
   ·simp[binOp,Op.intArith,SV.conc,g9 J]
   ·simp[binOp,Op.intArith,SV.conc,g9 J]
   ·simp at J;simp[binOp,Op.intDiv,SV.conc,J.1,g9 J.2]
   ·simp at J;simp[binOp,Op.intDiv,SV.conc,J]
   ·simp[binOp,Op.intCmp,SV.conc]
   ·simp[binOp,Op.intCmp,SV.conc]
   ·simp[binOp,Op.intCmp,SV.conc]
   ·simp[binOp,Op.intCmp,SV.conc]
   ·simp[binOp,Op.intCmp,SV.conc]
   ·simp[binOp,Op.intCmp,SV.conc]
theorem wt {a b:zdK} (h:wk op a b=some (n,s)) (J:n=true) (t:TypeId) (w:World):
 (binOp op t (.string a) (.string b)).run P w= .ok (s.conc β) w:=by
 unfold wk at h;split at h<;>simp only[za1,zag,reduceCtorEq] at h<;>(obtain⟨h3,h4⟩:=h;subst h3;subst h4)
 ·simp at J;have: ¬(((a.size+b.size:Nat):Int)>IntKind.i64.max):=by simp;omega
  simp only[binOp,Op.stringOp,this,if_false,zdJ,SV.conc]
 all_goals simp[binOp,Op.stringOp,SV.conc,F3,ByteArray.toList_eq]
variable {t:TypeId} {x y:SV}
theorem rR (h:DD P op t x y=some (n,s)) (w:World):
 ∃b,eqS P 9 t x y=some b/\((op= .eql/\s.conc β= .bool b)\/(op= .neq/\s.conc β= .bool (!b))):=by
 unfold DD at h;split at h<;>simp at h
 ·rename_i b J;obtain⟨_,rfl⟩:=h;exact⟨b,J, .inl ⟨rfl,rfl⟩⟩
 ·rename_i b J;obtain⟨_,rfl⟩:=h;exact⟨b,J, .inr ⟨rfl,rfl⟩⟩
theorem kT {x y:Operand} {a b:Array Value} (h:P.eqGuardType P.depth t=false) (w:World):
 (eqGuard op t x y (.agg a) (.agg b)).run P w= .ok () w:=by
 cases op<;>simp[eqGuard,h]
theorem Ae (h:J8 P op t x y=some (n,s)) (Z:n=true) (X Y:Operand) (w:World):
 (do eqGuard op t X Y (x.conc β) (y.conc β);binOp op t (x.conc β) (y.conc β)).run P w= .ok (s.conc β) w:=by
 unfold J8 at h;split at h
 ·rename_i k a k' b;have:=Ad (P:=P) (β:=β) h Z t w;simp[SV.conc,eqGuard_at_int,this]
 ·rename_i a b;have:=wt (P:=P) (β:=β) h Z t w;simp[SV.conc,eqGuard_at_string,this]
 ·rename_i a b;obtain⟨c,V,h1⟩:=rR (β:=β) h w;have J:=pc (β:=β) 9 10000 t _ _ c w (by omega) V;rcases h1 with ⟨rfl,h2⟩|⟨rfl,h2⟩
  ·rw[h2];simp only[SV.conc,eqGuard_at_bool,zdI,zdJ,zdH] at J ⊢;simp only[binOp,Op.equal,Op.maxDepth,zdI,J,zdH,zdJ]
  ·rw[h2];simp only[SV.conc,eqGuard_at_bool,zdI,zdJ,zdH] at J ⊢;simp only[binOp,Op.equal,Op.maxDepth,zdI,J,zdH,zdJ]
 ·rename_i xs ys;cases hg:P.eqGuardType P.depth t with
  |true=>simp[hg] at h
  |false=>
   simp only[hg,zdt] at h;obtain⟨c,V,h1⟩:=rR (β:=β) h w;have J:=pc (β:=β) 9 10000 t _ _ c w (by omega) V;rcases h1 with ⟨rfl,h2⟩|⟨rfl,h2⟩
   ·rw[h2];simp only[SV.conc,zdI,kT hg,zdH] at J ⊢;simp only[binOp,Op.equal,Op.maxDepth,zdI,J,zdH,zdJ]
   ·rw[h2];simp only[SV.conc,zdI,kT hg,zdH] at J ⊢;simp only[binOp,Op.equal,Op.maxDepth,zdI,J,zdH,zdJ]
 ·cases h
theorem aet {Y:Operand} (h:agm P op t Y x y=some (n,s)) (hn:n=true) (X:Operand) (Z: ∀v,Y= .const v->y.conc β=v) (w:World):
 (do eqGuard op t X Y (x.conc β) (y.conc β);binOp op t (x.conc β) (y.conc β)).run P w= .ok (s.conc β) w:=by
 unfold agm at h;split at h
 ·rw[Z _ rfl];unfold K0 at h;split at h<;>simp only[za1,zag,reduceCtorEq] at h<;>(rename_i V;obtain⟨h3,h4⟩:=h;subst h3;subst h4)
  ·have J: ∀d:Nat,(Op.equalIn (d+1) t .nilIface .nilIface).run P w= .ok true w:=λd=>by simp[Op.equalIn,run_underlying V]
   have J:=J 9999;simp only[Nat.reduceAdd] at J;simp[SV.conc,eqGuard,binOp,Op.equal,Op.maxDepth,J]
  ·have J: ∀d:Nat,(Op.equalIn (d+1) t .nilIface .nilIface).run P w= .ok true w:=λd=>by simp[Op.equalIn,run_underlying V]
   have J:=J 9999;simp only[Nat.reduceAdd] at J;simp[SV.conc,eqGuard,binOp,Op.equal,Op.maxDepth,J]
 ·rename_i a b;rw[Z _ rfl];unfold K0 at h;split at h<;>simp only[za1,zag,reduceCtorEq] at h<;>(rename_i V;obtain⟨h3,h4⟩:=h;subst h3;subst h4)
  ·have J: ∀d:Nat,(Op.equalIn (d+1) t (.iface a b) .nilIface).run P w= .ok false w:=λd=>by simp[Op.equalIn,run_underlying V]
   have J:=J 9999;simp only[Nat.reduceAdd] at J;simp[SV.conc,eqGuard,binOp,Op.equal,Op.maxDepth,J]
  ·have J: ∀d:Nat,(Op.equalIn (d+1) t (.iface a b) .nilIface).run P w= .ok false w:=λd=>by simp[Op.equalIn,run_underlying V]
   have J:=J 9999;simp only[Nat.reduceAdd] at J;simp[SV.conc,eqGuard,binOp,Op.equal,Op.maxDepth,J]
 ·exact Ae h hn X Y w
theorem DH {op:UnOp} (h:unS op x=some (n,s)) (J:n=true) (w:World):(Op.unary op (x.conc β)).run P w= .ok (s.conc β) w:=by
 unfold unS at h;split at h<;>simp at h
 ·obtain⟨rfl,rfl⟩:=h;have:=g9 J;simp[SV.conc,Op.unary,Op.intArith,this]
 ·obtain⟨rfl,rfl⟩:=h;simp[SV.conc,Op.unary]
variable {i:Int}
theorem dq {y:Nat} {code:BoundsCode} (h0:0<=i) (h1:i<=y) (w:World):(Instr.sliceBound (.int k i) y code).run P w= .ok i.toNat w:=by
 simp[Instr.sliceBound,asIntOf,h0,h1]
variable {lo hi:Option SV} {b:Bool} {l h:Nat}
theorem qb {n cap:Nat} (J:F9 n lo hi=some (b,l,h)) (V:b=true) (Z:n<=cap) (Y:Bool) (w:World):
 (Instr.sliceBounds Y n cap (lo.map (SV.conc β)) (hi.map (SV.conc β)) none).run P w= .ok (l,h,cap) w/\l<=h/\h<=n:=by
 unfold F9 at J;split at J<;>simp at J
 ·obtain⟨_,rfl,rfl⟩:=J;exact⟨by simp[Instr.sliceBounds],by omega,by omega⟩
 ·obtain⟨h1,rfl,rfl⟩:=J;subst V;simp at h1;exact⟨by simp[Instr.sliceBounds,SV.conc,dq (y:=cap) h1.1 (by omega)],by omega,by omega⟩
 ·obtain⟨h1,rfl,rfl⟩:=J;subst V;simp at h1;exact⟨by simp[Instr.sliceBounds,SV.conc,dq h1.1 h1.2],by omega,by omega⟩
 ·rename_i k1 l1 k2 h2;obtain⟨h1,rfl,rfl⟩:=J;subst V;simp at h1;obtain⟨⟨h3,h4⟩,h5⟩:=h1;have h6:0<=h2:=by omega
  exact⟨by simp[Instr.sliceBounds,SV.conc,dq (y:=cap) h6 (by omega),dq (y:=h2.toNat) h3 (by omega)],by omega,by omega⟩
theorem Af {n:Nat} (Y:F9 n lo hi=some (b,l,h)) (V:b=true) (J:Bool) (w:World):
 (Instr.sliceBounds J n n (lo.map (SV.conc β)) (hi.map (SV.conc β)) none).run P w= .ok (l,h,n) w/\l<=h/\h<=n:=qb Y V (za0 _) J w
theorem yc {s:zdK} (h0:0<=i) (h1:i<s.size):(if 0<=i then s[i.toNat]? else none).map (λb=>(b.toNat:Int))=some (F6 s i.toNat):=by
 have J:i.toNat<s.size:=by omega
 rw[if_pos h0,ByteArray.getElem?_lt' s _ J];unfold F6;have:s.data.toList[i.toNat]? =some s[i.toNat]:=by
  rw[zaa (by simpa using J)];simp[ByteArray.getElem_eq_getElem_data]
 rw[this];rfl
theorem aaI (off:Nat): ∀(vs:zdO) (k:Nat) (J:Array Value) (i:Nat),off+k+vs.length<=J.size->
 ((vs.zipIdx k).foldl (λ(cs:Array Value) (x:Value×Nat)=>cs.setIfInBounds (off+x.2) x.1) J)[i]? =if off+k<=i/\i<off+k+vs.length then vs[i - (off+k)]? else J[i]?
 | [],k,J,i,_=>by simp;omega
 |v::vs,k,J,i,h=>by
  simp only[List.zipIdx_cons,zbe,za4] at h ⊢;rw[aaI off vs (k+1) _ i (by simp;omega)];by_cases h1:i=off+k
  ·subst h1;rw[if_neg (by omega),if_pos (by omega)];simp[Array.getElem?_setIfInBounds];omega
  ·by_cases h2:off+(k+1)<=i/\i<off+(k+1)+vs.length
   ·rw[if_pos h2,if_pos (by omega),show i - (off+k)=(i - (off+(k+1)))+1 by omega];simp
   ·rw[if_neg h2,if_neg (by omega),zdd (by omega)]
theorem jV {place:Nat->Option (Nat×Nat)}: ∀(J:List (Nat×SV)) (cs r:zdN),rG place cs J=some r->(∀p∈J,∀c,p.2≠ .val (.agg c))->
 Instr.fill place (SV.concs β cs).toArray (J.map λp=>(p.1,p.2.conc β))=some (SV.concs β r).toArray/\(∀s∈r,s∈cs\/ ∃p∈J,s∈p.2.cells)/\r.length=cs.length
 | [],cs,r,h,_=>by simp[rG] at h;subst h;exact⟨rfl,λs Y=> .inl Y,rfl⟩
 |(i,v)::J,cs,r,h,hv=>by
  simp only[rG] at h;split at h
  ·cases h
  ·rename_i off size hp;cases V:(Nat.beq v.cells.length size&&Nat.ble (off+v.cells.length) cs.length) with
   |false=>simp[V] at h
   |true=>
    simp only[V,zdu] at h;simp only[za2] at V;have e1:=zab V.1;have e2:=zak V.2;obtain⟨Z,ih2,ih3⟩:=jV J _ r h (λp hp=>hv p (zan _ hp));have hcells:=SV.cells_conc β v (hv (i,v) (by simp));refine⟨?_, ?_,by rw[ih3,jd e2]⟩
    ·simp only[zaK,Instr.fill,hp];have hl:(v.conc β).cells.size=v.cells.length:=by rw[hcells,SV.concs_eq];simp
     rw[hl,if_neg (by rw[e1];simp[SV.concs_eq];omega)];have Y:Array.foldl (λcs x=>match x with|(c,j)=>cs.setIfInBounds (off+j) c) (SV.concs β cs).toArray (v.conc β).cells.zipIdx=(SV.concs β (gZ cs off v.cells)).toArray:=by
      rw[hcells];apply Array.ext_getElem?;intro i;have:=aaI off (SV.concs β v.cells) 0 (SV.concs β cs).toArray i (by simp[SV.concs_eq];omega);rw[<-Array.foldl_toList];simp only[Array.toList_zipIdx];rw[this];simp only[SV.concs_eq,zde,zaL,jR e2,zaB,zaY];split<;>rfl
     rw[Y];exact Z
    ·intro s Y;rcases ih2 s Y with h1|⟨p,hp,h1⟩
     ·unfold gZ at h1;simp only[za8] at h1;rcases h1 with (h1|h1)|h1
      ·exact .inl (zbd h1)
      ·exact .inr ⟨(i,v),by simp,h1⟩
      ·exact .inl (zbD h1)
     ·exact .inr ⟨p,zan _ hp,h1⟩
end
section
variable {P:Program} {β:zdM} {W0:Base}
theorem jr (id e o j:Nat):(addr β id e o).add j=addr β id e (o+j):=by
 unfold addr Addr.add;split
 ·subst_vars;simp
 ·simp;omega
variable {bl:zdP} {w:World} {t:TypeId} {x:SV} {E:Eff}
theorem qe (V:BC W0 bl β w) (J:rH P bl t x=some E) (Z:E.need=true):
 ∃a,x.conc β= .pointer (some a)/\(loadVar t a).run P w= .ok (E.out.conc β) w/\Live bl E.out/\E.wr=none/\E.nw=none:=by
 unfold rH at J;split at J
 ·rename_i id e o;split at J
  ·rename_i B hB
   have key:B.kd≠ .gone->(match xW P t,szT P t with
    |some false,_=>match (B.get e)[o]? with
     |some s=>some ({need:=decide (e<B.n),out:=s,rd:= [id]}:Eff)
     |none=>none
    |some true,some n=>bif Nat.beq (((B.get e).drop o).take n).length n then some {need:=decide (e<B.n),out:= .agg (((B.get e).drop o).take n),rd:= [id]} else none
    |_,_=>none)=some E-> ∃a,(SV.ptr id e o).conc β= .pointer (some a)/\(loadVar t a).run P w= .ok (E.out.conc β) w/\Live bl E.out/\E.wr=none/\E.nw=none:=by
    intro hg J;have q:=V.blk id B hB hg;refine⟨addr β id e o,rfl, ?_⟩;split at J
    ·rename_i ht;split at J
     ·rename_i s hs;simp at J;subst J;simp at Z;refine⟨?_,V.live id B e o s hB hg Z hs,rfl,rfl⟩;simp[loadVar,nQ w ht,q.val e Z o s hs]
     ·cases J
    ·rename_i n ht hsz;cases hl:Nat.beq (((B.get e).drop o).take n).length n with
     |false=>rw[hl] at J;simp at J
     |true=>
      rw[hl] at J;simp only[zdu,za1] at J;subst J;simp only[zdw] at Z;have hlen:=zab hl;refine⟨?_, ?_,rfl,rfl⟩
      ·have hc:=run_loadCells_list (P:=P) w (addr β id e o) (SV.concs β (((B.get e).drop o).take n)) (λj v hv=>by
        rw[jr];rw[SV.concs_eq,zaL] at hv;cases Y:(((B.get e).drop o).take n)[j]? with
        |none=>simp[Y] at hv
        |some s=>
         simp[Y] at hv;subst hv;refine q.val e Z (o+j) s ?_;have hjn:j<n:=by
          rcases zah j n with h'|h'
          ·exact h'
          ·rw[zad (by omega)] at Y;cases Y
         rw[zcc hjn,zcy] at Y
         exact Y)
       have hl2:(SV.concs β (((B.get e).drop o).take n)).length=n:=by rw[SV.concs_eq,zaB,hlen]
       rw[hl2] at hc;simp only[loadVar,zdI,nQ w ht,zdH,if_true,eF w hsz,hc,zdJ,SV.conc]
      ·intro i hi;simp only[SV.ids] at hi;obtain⟨s,hs,hi⟩:=SV.mem_idss.1 hi;have hs':=zbD (zbd hs);obtain⟨k,hk,hks⟩:=List.mem_iff_getElem.1 hs';exact V.live id B e k s hB hg Z (by rw[zaa hk,hks]) i hi
    ·cases J
   split at J
   ·cases J
   ·rename_i hk;exact key (λe=>hk e) J
  ·cases J
 ·cases J
theorem wu (hbc:BC W0 bl β w) {v:SV} (J:o9 P bl t x v=some E) (hn:E.need=true) (hv:Live bl v):
 ∃a id e o B w',x.conc β= .pointer (some a)/\(storeVar t a (v.conc β)).run P w= .ok () w'/\bl id=some B/\E.wr=some (id,e,o,v.cells)/\E.nw=none/\E.out= .val undef/\BC W0 (upd bl id (B.put e o v.cells)) β w':=by
 unfold o9 at J;split at J
 ·rename_i id e o;split at J
  ·rename_i B hB;split at J
   ·rename_i hk;split at J
    ·rename_i n hsz;cases Z:(Nat.beq v.cells.length n&&v.cells.all SV.one&&Nat.ble (o+v.cells.length) B.sz) with
     |false=>rw[Z] at J;simp at J
     |true=>
      rw[Z] at J;simp only[zdu,za1] at J;subst J;simp only[zdw] at hn;simp only[za2,zaf] at Z;have e1:=zab Z.1.1;have e2:=zak Z.2;have V:=Z.1.2;have hna: ∀cs,v≠ .val (.agg cs):=λcs hh=>by
       subst hh;have:=V (.val (.agg cs)) (by simp[SV.cells]);simp[SV.one,Value.oneCell'] at this
      have hcl:=SV.cells_conc β v hna;have q:=hbc.blk id B hB (by rw[hk];simp);have Y: ∀s∈v.cells,Live bl s:=by
       intro s hs;cases v with
       |agg cs=>exact λi hi=>hv i (by simp only[SV.ids];exact SV.mem_idss.2 ⟨s,hs,hi⟩)
       |_=>simp[SV.cells] at hs;subst hs;exact hv
      refine⟨addr β id e o,id,e,o,B,_,rfl, ?_,hB,rfl,rfl,rfl,hbc.write hB hk hn e2 Y⟩;have hlen:(SV.concs β v.cells).length=v.cells.length:=by rw[SV.concs_eq];simp
      have hin: ∀j,j<v.cells.length->e*B.sz+o+j<(β id).cap*B.sz:=λj hj=>by
       have:=jS (e:=e) (o:=o+j) (n:=(β id).cap) (sz:=B.sz) (by have:=q.le;omega) (by omega);omega
      have hst:=run_storeCells_cells (P:=P) (β id).blk ((β id).off+e*(β id).sz+o) (SV.concs β v.cells) 0 w
       (λj hj=>by
         have:=q.ex (e*B.sz+o+j) (hin j (by omega));rw[q.sz]
         rwa[show (β id).off+e*B.sz+o+0+j=(β id).off+(e*B.sz+o+j) by omega])
       (λj hj=>by
         have:=q.fr hk (e*B.sz+o+j) (hin j (by omega));rw[q.sz]
         rwa[show (β id).off+e*B.sz+o+0+j=(β id).off+(e*B.sz+o+j) by omega])
       (λu hu=>by
         rw[SV.concs_eq] at hu;obtain⟨s,hs,rfl⟩:=zaz.1 hu
         exact SV.one_conc β (V s hs))
      have hsz2:(SV.concs β v.cells).toArray.size=n:=by simp[SV.concs_eq,e1]
      simp only[storeVar,zdI,eF w hsz,zdH,Sem.run_ite,ne_eq,hcl,hsz2,not_true_eq_false,if_false,zaY] at hst ⊢;exact hst
    ·cases J
   ·cases J
  ·cases J
 ·cases J
def CtrOK (P:Program) (W0:Base) (f:FuncId) (k:Ctr):Prop:=
 ∀(β:zdM) (w:World) (args:zdN) (b:Bool) (s:SV),Pres W0 w->k args=some (b,s)->b=true->
  s.ids= []/\Calls P f (SV.concs β args).toArray w λe w'=>e= .returned (s.conc β)/\Below w.heap.size w w'
def V0 (P:Program) (f:FuncId):Prop:= ∀(args:Array Value) (w:World),(callFunc f args).run P w= .ok (.enter f args) w
structure GamOK (P:Program) (W0:Base) (Γ:FuncId->Option Ctr):Prop where
 ctr: ∀f k,Γ f=some k->CtrOK P W0 f k
 call: ∀f k,Γ f=some k->V0 P f
theorem GamOK.sub {P:Program} {W0 B:Base} {Γ:zdR} (h:GamOK P W0 Γ) (V:SubB B W0):GamOK P B Γ:=
 {h with ctr:=λf k J β w args b s hp=>h.ctr f k J β w args b s (V.pres hp)}
variable {A:AS} {a:Act} {G:List (Nat×Bool)} {c:Call} {f:FuncId} {args:zdN}
theorem nR (h:FR β A a) (hG:DX a G) (V:target A.tm G c=some (f,args)) (hf:V0 P f) (ty:TypeId) (w:World):
 (do let d <-resolve a.eval c ty;invoke d.target d.args).run P w= .ok (.enter f (SV.concs β args).toArray) w/\ ∀s∈args,Live A.bl s:=by
 unfold target at V;split at V
 ·rename_i x hx;split at V
  ·rename_i g first caps as Z Y
   simp only[za1,zag] at V;obtain⟨rfl,rfl⟩:=V;obtain⟨e1,l1⟩:=bu h hG Z;obtain⟨e2,l2⟩:=j0 h hG Y;refine⟨?_, ?_⟩
   ·have e3:c.args.map a.eval=(SV.concs β as).toArray:=by apply zaW;simp[e2]
    simp only[resolve,hx,e1,e3,SV.conc,Deferred.ofValue,zdI,zdJ,zdH,invoke];have:=hf ((SV.concs β first).toArray++(SV.concs β as).toArray++(SV.concs β caps).toArray) w;rw[this]
    congr 2
    apply zaW;simp[SV.concs_eq]
   ·intro s J;simp only[za8] at J;rcases J with (J|J)|J
    ·exact λi hi=>l1 i (by simp only[SV.ids,za8];exact .inl (SV.mem_idss.2 ⟨s,J,hi⟩))
    ·exact l2 s J
    ·exact λi hi=>l1 i (by simp only[SV.ids,za8];exact .inr (SV.mem_idss.2 ⟨s,J,hi⟩))
  ·cases V
 ·cases V
theorem nU (h:FR β A a) (hG:DX a G) (V:target A.tm G c=some (f,args)):True/\ ∀s∈args,Live A.bl s:=by
 refine⟨trivial, ?_⟩;unfold target at V;split at V
 ·split at V
  ·rename_i g first caps as Z Y
   simp only[za1,zag] at V;obtain⟨rfl,rfl⟩:=V;have l1:=(bu h hG Z).2;have l2:=(j0 h hG Y).2;intro s J;simp only[za8] at J;rcases J with (J|J)|J
   ·exact λi hi=>l1 i (by simp only[SV.ids,za8];exact .inl (SV.mem_idss.2 ⟨s,J,hi⟩))
   ·exact l2 s J
   ·exact λi hi=>l1 i (by simp only[SV.ids,za8];exact .inr (SV.mem_idss.2 ⟨s,J,hi⟩))
  ·cases V
 ·cases V
theorem pd {m:Bool}: ∀(x:SV) (l:zdN) (s:SV) (w:World),mms m x l=some s->
 ((SV.concs β l).foldlM (if m then Builtin.max2 else Builtin.min2) (x.conc β)).run P w= .ok (s.conc β) w/\(s=x\/s.ids= [])
 |x, [],s,w,h=>by simp[mms] at h;subst h;simp[SV.concs]
 |x,y::r,s,w,h=>by
  simp only[mms] at h;split at h
  ·rename_i z J;unfold mm at J;split at J
   ·rename_i k a Z b;simp at J;subst J;obtain⟨V,Y⟩:=pd _ r s w h;refine⟨?_, ?_⟩
    ·simp only[SV.concs,List.foldlM_cons,zdI];cases m
     ·simp only[SV.conc,zbo,if_false,Builtin.min2,zdJ,zdH,zdt] at V ⊢;exact V
     ·simp only[SV.conc,if_true,Builtin.max2,zdJ,zdH,zdu] at V ⊢;exact V
    ·rcases Y with rfl|Y
     ·right;simp[SV.ids]
     ·exact .inr Y
   ·cases J
  ·cases h
theorem Ag {s:SV} (h:Nv P t x=some s) (ty:TypeId) (w:World):(Builtin.len_ #[t] ty #[x.conc β]).run P w= .ok (s.conc β) w/\s.ids= []:=by
 unfold Nv at h;split at h<;>simp at h
 all_goals
  subst h;rename_i J;simp[Builtin.len_,run_underlying J,SV.conc,goInt,SV.ids]
end
section
variable {P:Program} {W0:Base}
theorem DI (a b:zdK):(a==b)=seq a b:=by
 obtain⟨⟨x⟩⟩:=a;obtain⟨⟨y⟩⟩:=b;show ((⟨x⟩:Array UInt8)==⟨y⟩)=(x==y);simp
variable {β:zdM} {t:TypeId} {b:Bool}
theorem js {x y:SV} (h:keq P t x y=some b):
 ∃d,P.underlying t=some d/\MapKept.IsKey d (x.conc β)/\Instr.sameNow d (x.conc β) (y.conc β)=some b:=by
 unfold keq at h;split at h
 ·rename_i k0 k a Z c V;cases J:(kEq k Z&&kEq k0 k) with
  |false=>rw[J] at h;cases h
  |true=>
   rw[J] at h;simp only[zdu,za1] at h;simp only[za2] at J;have e1:=rF J.1;have Y:=rF J.2;subst e1;subst Y;subst h;exact⟨_,V,by simp[SV.conc,MapKept.IsKey],by simp[SV.conc,Instr.sameNow]⟩
 ·rename_i a c V;simp only[za1] at h;subst h;exact⟨_,V,by simp[SV.conc,MapKept.IsKey],by simp only[SV.conc,Instr.sameNow,DI]⟩
 ·cases h
def pf (β:zdM):Nat->List (SV×SV)->List MapEntry
 |_, []=> []
 |i,(k,v)::r=>{key:=k.conc β,val:=v.conc β,born:=i}::pf β (i+1) r
theorem lG {β:zdM} {get:zdQ} {es:Array MapEntry} (h1: ∀e,e<es.size-> ∃k v,get e= [k,v]/\es[e]? =some {key:=k.conc β,val:=v.conc β,born:=e}) (h2: ∀e,es.size<=e->get e= []):
 ∀(n e:Nat) (l:List (SV×SV)),e<=es.size->Aa get n e=some l->es.toList.drop e=pf β e l/\e+l.length=es.size/\ ∀p∈l,∃i,get i= [p.1,p.2]
 |0,e,l,_,h=>by simp[Aa] at h
 |n+1,e,l,he,h=>by
  simp only[Aa] at h;rcases zah e es.size with J|hge
  ·obtain⟨k,v,k1,k2⟩:=h1 e J;rw[k1] at h;simp only[zbE] at h;obtain⟨r,hr,rfl⟩:=h;obtain⟨Y,a2,Z⟩:=lG h1 h2 n (e+1) r J hr;refine⟨?_,by simp;omega,λp hp=> ?_⟩
   ·have V:es.toList[e]? =some {key:=k.conc β,val:=v.conc β,born:=e}:=by simpa using k2
    rw[zaH (by simpa using J),Y];rw[zaa (by simpa using J)] at V;simp only[pf,za1] at V ⊢;rw[V]
   ·rcases zai.1 hp with rfl|hp
    ·exact⟨e,k1⟩
    ·exact Z p hp
  ·obtain rfl:e=es.size:=by omega
   rw[h2 _ (za0 _)] at h;simp only[za1] at h;subst h;exact⟨by simp[pf],by simp,λp hp=>by cases hp⟩
theorem mL {β:zdM} {t:TypeId} {k:SV} {d:TypeDesc} (V:P.underlying t=some d): ∀(l:List (SV×SV)) (i j:Nat) (r:Option SV),findS P t k l=some r->
 (∀v,r=some v-> ∃p∈l,p.2=v)/\ ∃q,Instr.findNow d (k.conc β) (pf β i l) j=some q/\q.map (·.2)=r.map (SV.conc β)
 | [],i,j,r,h=>by
   simp only[findS,za1] at h;subst h;exact⟨λv hv=>(by cases hv),none,rfl,rfl⟩
 |(k',v)::l,i,j,r,h=>by
  simp only[findS] at h;split at h
  ·rename_i b Z;obtain⟨Y,h1,_,h2⟩:=js (β:=β) Z;rw[V] at h1;obtain rfl:d=Y:=by simpa using h1
   cases b with
   |true=>
    simp only[zdu,za1] at h;subst h;exact⟨λu J=>⟨_,zbF,by simpa using J⟩,some (j,v.conc β),by simp only[pf,Instr.findNow,h2],rfl⟩
   |false=>
    obtain⟨k2,q,k3,k4⟩:=mL V l (i+1) (j+1) r h;exact⟨λu J=>by obtain⟨p,hp,e⟩:=k2 u J;exact⟨p,zan _ hp,e⟩,q,by simp only[pf,Instr.findNow,h2];exact k3,k4⟩
  ·cases h
theorem pg {β:zdM} {t:TypeId} {k:SV} {d:TypeDesc} (J:P.underlying t=some d): ∀(l:List (SV×SV)) (i j:Nat),Gb P t k l=some true->Instr.findNow d (k.conc β) (pf β i l) j=some none
 | [],i,j,_=>rfl
 |(k',v)::l,i,j,h=>by
  simp only[Gb] at h;split at h
  ·rename_i b c Y Z;simp only[za1,za2,zap] at h;obtain⟨rfl,rfl⟩:=h;obtain⟨V,h1,_,h2⟩:=js (β:=β) Y;rw[J] at h1;obtain rfl:d=V:=by simpa using h1
   simp only[pf,Instr.findNow,h2];exact pg J l (i+1) (j+1) Z
  ·cases h
theorem lH (bo:Bool) (k:Nat): ∀(L:List (Nat×Int)) (i j:Nat),
 (Instr.findNow (.int .i64) (.int .i64 k) (dS bo i L) j=some none/\(∀p∈L,p.1≠k)/\d9 L k=0)\/
 ∃m z,Instr.findNow (.int .i64) (.int .i64 k) (dS bo i L) j=some (some (j+m,valF bo z))/\L[m]? =some (k,z)/\d9 L k=z/\ ∀n,n<m-> ∀p,L[n]? =some p->p.1≠k
 | [],i,j=> .inl ⟨rfl,by simp,rfl⟩
 |(V,v)::L,i,j=>by
  by_cases h:V=k
  ·subst h;exact .inr ⟨0,v,by simp[dS,Instr.findNow,Instr.sameNow],by simp,by simp[d9],λn Y=>by omega⟩
  ·have J:((k:Int)==(V:Int))=false:=by rw[zdA];omega
   rcases lH bo k L (i+1) (j+1) with ⟨h1,h2,h3⟩|⟨m,z,h1,h2,h3,h4⟩
   ·refine .inl ⟨by simp only[dS,Instr.findNow,Instr.sameNow,if_true,J];exact h1,λp hp=> ?_,by simp[d9,h,h3]⟩;rcases zai.1 hp with rfl|hp
    ·exact h
    ·exact h2 p hp
   ·refine .inr ⟨m+1,z,by simp only[dS,Instr.findNow,Instr.sameNow,if_true,J];rw[h1,show j+1+m=j+(m+1) by omega],by simpa using h2,by simp[d9,h,h3],λn Y p hp=> ?_⟩;cases n with
    |zero=>simp at hp;subst hp;exact h
    |succ n=>exact h4 n (by omega) p (by simpa using hp)
theorem aaR {z:Value} (h:(P.info? t).bind (·.zero)=some z) (w:World):(zeroValue t).run P w= .ok z w:=by
 cases hi:P.info? t with
 |none=>simp[hi] at h
 |some i=>simp[hi] at h;simp[zeroValue,typeInfo,hi,h]
theorem ye (bl:zdP) (z:Value):Live bl (ofV z):=λi hi=>by rw[BX] at hi;cases hi
theorem iO (ok:Bool) (v:SV) (b:Bool):(am5 ok v b).conc β=if ok then .tuple #[v.conc β, .bool b] else v.conc β:=by
 cases ok<;>simp[am5,SV.conc,SV.concs]
variable {bl:zdP} {ok:Bool}
theorem iP {v:SV} (h:Live bl v):Live bl (am5 ok v b):=by
 cases ok with
 |false=>exact h
 |true=>
  intro i hi;simp only[am5,zdu,SV.ids,SV.idss,zbf,za8] at hi;exact h i (by simpa using hi)
variable {hq:Bool} {m k:SV} {E:Eff}
theorem lI (h:DE P hq bl t m k ok=some E):
 ∃i B,m= .mp i/\bl i=some B/\E.rd= [i]/\E.wr=none/\E.nw=none/\ ∀bl',bl' i=bl i->DE P hq bl' t m k ok=some E:=by
 unfold DE at h ⊢;split at h
 ·rename_i kt Z i V;split at h
  ·rename_i B z hB Y;have shape:E.rd= [i]/\E.wr=none/\E.nw=none:=by
    split at h
    ·split at h
     ·cases hq with
      |true=>
       simp only[zdu] at h;split at h
       ·simp only[za1] at h;subst h;exact⟨rfl,rfl,rfl⟩
       ·cases h
      |false=>
       simp only[zdt] at h;split at h
       ·simp only[za1] at h;subst h;exact⟨rfl,rfl,rfl⟩
       ·simp only[za1] at h;subst h;exact⟨rfl,rfl,rfl⟩
       ·cases h
     ·cases h
    ·split at h
     ·simp only[za1] at h;subst h;exact⟨rfl,rfl,rfl⟩
     ·cases h
    ·split at h
     ·simp only[za1] at h;subst h;exact⟨rfl,rfl,rfl⟩
     ·cases h
    ·cases h
   exact⟨i,B,rfl,hB,shape.1,shape.2.1,shape.2.2,λbl' J=>by simp only[V,J,hB,Y];exact h⟩
  ·cases h
 ·cases h
theorem Ah {w:World} (hbc:BC W0 bl β w) (h:DE P hq bl t m k ok=some E) (hn:E.need=true):
 (Instr.lookup t (m.conc β) (k.conc β) ok).run P w= .ok (E.out.conc β) w/\Live bl E.out:=by
 unfold DE at h;split at h
 ·rename_i kt et i ht;split at h
  ·rename_i B z hB hz;have hzero:=aaR (P:=P) hz w;split at h
   ·rename_i J;obtain⟨m1,m2,m3,m4⟩:=hbc.maps.ok i B hB (by rw[J];rfl);rw[J] at m4;obtain⟨es,e1,e2,e3,e4⟩:=m4;split at h
    ·rename_i l c hl hc;obtain⟨a1,a2,a3⟩:=lG e3 e4 64 0 l (zaA _) hl;rw[zaZ] at a1;obtain⟨d,hd,Z,_⟩:=js (β:=β) hc;have Y:=λem=>MapKept.run_checkKey (w:=w) hd Z em 9999;have none': ∀{q:Option (Nat×Value)},Instr.findNow d (k.conc β) (pf β 0 l) 0=some q->q.map (·.2)=(none:Option SV).map (SV.conc β)->(Instr.lookup t (SV.conc β (.mp i)) (k.conc β) ok).run P w= .ok ((am5 ok (ofV z) false).conc β) w/\Live bl (am5 ok (ofV z) false):=by
      intro q k3 k4;rw[<-a1] at k3;have hfk:=MapKept.run_findKey (w:=w) hd k3;cases q with
      |some q=>simp at k4
      |none=>
       refine⟨?_,iP (ye _ z)⟩;rw[iO,rE];simp[Instr.lookup,SV.conc,run_underlying ht,MapKept.run_getObj_map e1,Y,hfk,hzero,Result.andThen]
     cases hq with
     |true=>
      simp only[zdu] at h;split at h
      ·rename_i b hb;simp only[za1] at h;subst h;obtain rfl:b=true:=hn;exact none' (pg (β:=β) hd l 0 0 hb) rfl
      ·cases h
     |false=>
      simp only[zdt] at h;split at h
      ·rename_i v hf;simp only[za1] at h;subst h;obtain⟨k2,q,k3,k4⟩:=mL (β:=β) hd l 0 0 _ hf;rw[<-a1] at k3;have hfk:=MapKept.run_findKey (w:=w) hd k3;cases q with
       |none=>simp at k4
       |some q=>
        obtain⟨q1,q2⟩:=q;simp only[zb0,za1] at k4;subst k4;refine⟨?_,iP ?_⟩
        ·rw[iO];simp[Instr.lookup,SV.conc,run_underlying ht,MapKept.run_getObj_map e1,Y,hfk,Result.andThen]
        ·obtain⟨p,hp,rfl⟩:=k2 v rfl;obtain⟨j,hj⟩:=a3 p hp;exact hbc.maps.live i B j p.2 hB (by rw[J];rfl) (by rw[hj];simp)
      ·rename_i hf;simp only[za1] at h;subst h;obtain⟨_,q,k3,k4⟩:=mL (β:=β) hd l 0 0 _ hf;exact none' k3 k4
      ·cases h
    ·cases h
   ·rename_i J;obtain⟨m1,m2,m3,m4⟩:=hbc.maps.ok i B hB (by rw[J];rfl);rw[J] at m4;obtain⟨L,e1,e2⟩:=m4;split at h
    ·rename_i kz hu;simp only[za1] at h;subst h;have V:=hn;simp only[za2,zap,zdw] at V;obtain⟨⟨rfl,V⟩,hzz⟩:=V;have hkn:((kz.toNat:Int))=kz:=zcd V;have Z:MapKept.IsKey (.int .i64) (.int .i64 kz):=rfl;have Y:=λem=>MapKept.run_checkKey (w:=w) hu Z em 9999;refine⟨?_,λj hj=>by simp[SV.ids] at hj⟩;simp only[e2];have hf:=lH false kz.toNat L 0 0;rw[hkn] at hf;rcases hf with ⟨h1,_,h3⟩|⟨n,z',h1,_,h3,_⟩
     ·have hz0:z= .int .i64 0:=by
       unfold MS at hzz;split at hzz
       ·rename_i n;rw[beq_iff_eq.1 hzz]
       ·cases hzz
      rw[h3];simp[Instr.lookup,SV.conc,run_underlying ht,MapKept.run_getObj_map e1,Y,MapKept.run_findKey hu h1,hzero,hz0,Result.andThen]
     ·rw[h3];simp[Instr.lookup,SV.conc,run_underlying ht,MapKept.run_getObj_map e1,Y,MapKept.run_findKey hu h1,Result.andThen,valF]
    ·cases h
   ·rename_i J;obtain⟨m1,m2,m3,m4⟩:=hbc.maps.ok i B hB (by rw[J];rfl);rw[J] at m4;obtain⟨L,e1,e2,_⟩:=m4;split at h
    ·rename_i kz hu;simp only[za1] at h;subst h;have V:=hn;simp only[za2,zap,zdw] at V;obtain⟨⟨rfl,V⟩,hzz⟩:=V;have hkn:((kz.toNat:Int))=kz:=zcd V;have Z:MapKept.IsKey (.int .i64) (.int .i64 kz):=rfl;have Y:=λem=>MapKept.run_checkKey (w:=w) hu Z em 9999;refine⟨?_,λj hj=>by simp[SV.ids] at hj⟩;simp only[e2];have hf:=lH true kz.toNat L 0 0;rw[hkn] at hf;rcases hf with ⟨h1,_,h3⟩|⟨n,z',h1,_,h3,_⟩
     ·have hz0:z= .bool false:=by
       unfold MT at hzz;split at hzz
       ·rename_i b;cases b<;>simp_all
       ·cases hzz
      rw[h3];simp[Instr.lookup,SV.conc,run_underlying ht,MapKept.run_getObj_map e1,Y,MapKept.run_findKey hu h1,hzero,hz0,Result.andThen]
     ·rw[h3];simp[Instr.lookup,SV.conc,run_underlying ht,MapKept.run_getObj_map e1,Y,MapKept.run_findKey hu h1,Result.andThen,valF]
    ·cases h
   ·cases h
  ·cases h
 ·cases h
end
section
variable {P:Program} {β:zdM} {W0:Base}
variable {E:Eff}
theorem cJ {o:Option SV} (h:km o=some E): ∃s,o=some s/\E={out:=s}:=by
 unfold km at h;split at h
 ·simp at h;exact⟨_,rfl,h.symm⟩
 ·cases h
variable {o:Option (Bool×SV)} {s:SV}
theorem rS {n:Bool} (h:BZ o=some (n,s)) (J:n=true):o=some (n,s):=by
 cases o with
 |some p=>exact h
 |none=>simp only[BZ,za1,zag] at h;rw[J] at h;cases h.1
theorem ia (h:pY o=some E): ∃b s,o=some (b,s)/\E={need:=b,out:=s}:=by
 unfold pY at h;split at h
 ·simp at h;exact⟨_,_,rfl,h.symm⟩
 ·cases h
structure Good (W0:Base) (bl:Nat->Option Blk) (id:Nat) (E:Eff) (β:Nat->Loc) (w':World) (β':Nat->Loc):Prop where
 bc:BC W0 (VO bl id E) β' w'
 same: ∀i,bl i≠none->β' i=β i
 live:Live (VO bl id E) E.out
def Runs (P:Program) (W0:Base) (bl:zdP) (id:Nat) (E:Eff) (β:zdM) (w:World) (s:Sem Next):Prop:=
 (∃w' β',s.run P w= .ok (.value (E.out.conc β')) w'/\Good W0 bl id E β w' β')\/
 (∃w' β',s.run P w= .ok .skip w'/\E.out= .val undef/\Good W0 bl id E β w' β')\/
 (∃f args,s.run P w= .ok (.enter f args) w/\Calls P f args w λe w'=> ∃β',e= .returned (E.out.conc β')/\Good W0 bl id E β w' β')
variable {bl:zdP} {id:Nat} {w:World}
abbrev _root_.zdZ:=Exit->Act->World->Prop
theorem Runs.next {s:Sem Next} (h:Runs P W0 bl id E β w s) (o:Oper) (a:Act) (next:Act->World->Prop) (Q:zdZ)
 (J: ∀w' β',Good W0 bl id E β w' β'->next (a.put o.dst (E.out.conc β')) w'):o.upon P a next Q (s.run P w):=by
 rcases h with ⟨w',β',h,g⟩|⟨w',β',h,h2,g⟩|⟨f,args,h,V⟩
 ·rw[h];exact J w' β' g
 ·rw[h];have:=J w' β' g;rw[h2] at this;exact this
 ·rw[h];refine Calls.mono V ?_;rintro e w' ⟨β',rfl,g⟩;exact J w' β' g
theorem Runs.value {s:Sem Value} (J:BC W0 bl β w) (h:s.run P w= .ok (E.out.conc β) w) (h1:E.wr=none) (h2:E.nw=none) (V:Live bl E.out):
 Runs P W0 bl id E β w (do pure (.value (<-s))):=by
 refine .inl ⟨w,β,by simp[h], ?_,λ_ _=>rfl, ?_⟩
 ·simp[VO,h1,h2];exact J
 ·simp[VO,h1,h2];exact V
theorem Runs.value' {s:Sem Next} (J:BC W0 bl β w) (h:s.run P w= .ok (.value (E.out.conc β)) w) (h1:E.wr=none) (h2:E.nw=none) (V:Live bl E.out):
 Runs P W0 bl id E β w s:=by
 refine .inl ⟨w,β,h, ?_,λ_ _=>rfl, ?_⟩
 ·simp[VO,h1,h2];exact J
 ·simp[VO,h1,h2];exact V
theorem aW (h:s.ids= []):Live bl s:=λi hi=>by rw[h] at hi;cases hi
theorem Runs.var (J:BC W0 bl β w) (hid:bl id=none) {t:TypeId} {v:Value} {cs:zdN} (hv:v.cells=(SV.concs β cs).toArray) (hl: ∀s∈cs,Live bl s) 
 (Z:E={out:= .ptr id 0 0,nw:=some {n:=1,sz:=cs.length,get:=λ_=>cs,kd:= .own}}):
 Runs P W0 bl id E β w (do pure (.value (.pointer (some (<-newVar t v))))):=by
 subst Z
 have k:=J.alloc (id:=id) hid (B:={n:=1,sz:=cs.length,get:=λ_=>cs,kd:= .own}) rfl (λ_ _=>rfl) (λe o s V Y=>hl s (zal Y)) cs (by simp) (λe o s V Y=>by
  have:e=0:=by simp at V;exact V
  subst this
  simpa using Y) t
 refine .inl ⟨_,_, ?_,⟨k,λi hi=>aC (λe=>hi (e▸hid)), ?_⟩⟩
 ·simp only[newVar,newRow,hv,zdI,run_newObj,zdH,zdJ,World.alloc_eq,SV.conc,addr,aA];simp
 ·intro i hi;simp only[SV.ids,zaj] at hi;subst hi;simp[VO,az]
end
section
variable {P:Program} {β:zdM} {W0:Base}
variable {A:AS} {a:Act} {G:List (Nat×Bool)}
theorem jW {β:zdM} (h:FR β A a) (V:DX a G) {lo:Option Operand} (Y:(lo.isSome==(lo.bind (ev A.tm G)).isSome)=true):
 lo.map a.eval=(lo.bind (ev A.tm G)).map (SV.conc β):=by
 cases lo with
 |none=>rfl
 |some x=>
  cases J:ev A.tm G x with
  |none=>simp[J] at Y
  |some s=>simp[J,(bu h V J).1]
variable {t:TypeId} {i:Nat}
theorem mw {f:Field} (h:fieldAt P t i=some f): ∃fs,P.underlying t=some (.struct fs)/\fs[i]? =some f:=by
 unfold fieldAt at h;split at h
 ·rename_i fs J;exact⟨fs,J,by simpa using h⟩
 ·cases h
theorem nV {t:Nat} {b:Bool} (J:DX a G) (h:a.tmps.getD t undef= .bool b):DX a ((t,b)::G):=by
 intro p hp;simp only[zai] at hp;rcases hp with rfl|hp
 ·exact h
 ·exact J p hp
theorem rU: ∀{fs:List Field} {pl:List (Nat×Nat)},nM P fs=some pl->fs.mapM (λf=>(P.info? f.type).map λi=>(f.offset,i.size))=some pl
 | [],pl,h=>by simp[nM] at h;subst h;simp
 |f::fs,pl,h=>by
  simp only[nM] at h;split at h
  ·rename_i s r h1 h2;simp at h;subst h;unfold szT at h1;cases hi:P.info? f.type with
   |none=>simp[hi] at h1
   |some i=>
    simp[hi] at h1;subst h1;simp[zcC,hi,rU h2]
  ·cases h
variable {v:SV}
theorem rW {bl:zdP} (V:Live bl v): ∀s∈v.cells,Live bl s:=by
 intro s J;cases v with
 |agg cs=>exact λi hi=>V i (by simp only[SV.ids];exact SV.mem_idss.2 ⟨s,J,hi⟩)
 |_=>simp[SV.cells] at J;subst J;exact V
theorem QX (z:zdO) (J:z≠ []): ∀(n i:Nat),i<n*z.length->(List.replicate n z).flatten[i]? =z[i%z.length]?
 |0,i,h=>by simp at h
 |n+1,i,h=>by
  have Y:0<z.length:=zbp.2 J;rw[zce,List.flatten_cons];by_cases hi:i<z.length
  ·rw[zbB hi,zbG hi]
  ·have V:i<n*z.length+z.length:=by rw[zcf] at h;exact h
   rw[zbY (by omega),QX z J n _ (by omega)]
   congr 1
   exact(Nat.mod_eq_sub_mod (by omega)).symm
theorem Yt {get:zdQ}: ∀{n e:Nat} {r:List UInt8},kP get e n=some r->r.length=n
 |0,e,r,h=>by simp[kP] at h;subst h;rfl
 |n+1,e,r,h=>by
  simp only[kP] at h;split at h
  ·split at h
   ·rename_i V J;simp at h;subst h;simp[Yt J]
   ·cases h
  ·cases h
theorem uX {get:zdQ}: ∀{n e:Nat} {r:List UInt8},kP get e n=some r-> ∃V:List Int,r=V.map (λz=>UInt8.ofNat z.toNat)/\ ∀(j:Nat) (z:Int),V[j]? =some z->get (e+j)= [.val (.int .u8 z)]
 |0,e,r,h=>by simp[kP] at h;subst h;exact⟨[],rfl,λj z J=>by simp at J⟩
 |n+1,e,r,h=>by
  simp only[kP] at h;split at h
  ·rename_i z Z;split at h
   ·rename_i r' Y;simp at h;subst h;obtain⟨V,h1,h2⟩:=uX Y;refine⟨z::V,by simp[h1],λj y J=> ?_⟩;cases j with
    |zero=>simp at J;subst J;exact Z
    |succ j=>
     have:=h2 j y (by simpa using J);rw[<-this];congr 1;omega
   ·cases h
  ·cases h
theorem rY: ∀(J:List Int) (s:zdK),J.foldl (λ(r:zdK) (n:Int)=>r.push (UInt8.ofNat n.toNat)) s=⟨(s.data.toList++J.map (λz=>UInt8.ofNat z.toNat)).toArray⟩
 | [],s=>by simp
 |z::J,s=>by
  rw[zbe,rY J]
  congr 1
  simp[ByteArray.push]
theorem mM: ∀{cs:zdN} {l:List ByteArray},oY cs=some l-> ∀{i:Nat},i<cs.length->cs[i]? =some (.val (.string (F7 l i)))
 | [],_,_,i,hi=>by simp at hi
 |c::cs,l,h,i,hi=>by
  unfold oY at h;split at h
  ·rename_i J;cases J
  ·rename_i s r J;obtain⟨rfl,rfl⟩:=List.cons.inj J;split at h
   ·rename_i Y V;simp only[za1] at h;subst h;cases i with
    |zero=>rfl
    |succ i=>simp only[zcg,F7];exact mM V (by simpa using hi)
   ·cases h
  ·cases h
theorem mN {k:IntKind}: ∀{cs:zdN} {l:List Int},oZ k cs=some l-> ∀{i:Nat},i<cs.length->cs[i]? =some (.val (.int k (F8 l i)))
 | [],_,_,i,hi=>by simp at hi
 |c::cs,l,h,i,hi=>by
  unfold oZ at h;split at h
  ·rename_i J;cases J
  ·rename_i k' z r J;obtain⟨rfl,rfl⟩:=List.cons.inj J;cases V:kEq k' k with
   |false=>rw[V] at h;cases h
   |true=>
    rw[V] at h;have Y:=rF V;subst Y;simp only[zdu] at h;split at h
    ·rename_i l' Z;simp only[za1] at h;subst h;cases i with
     |zero=>rfl
     |succ i=>simp only[zcg,F8];exact mN Z (by simpa using hi)
    ·cases h
  ·cases h
theorem DJ {el:TypeId} {cs:zdN} (V:xW P el=some false) (Y:szT P el=some 1) (hi:i<cs.length) (h:Nu P el cs i 1=some v):kj P el cs (i*1)=some v:=by
 unfold Nu at h;split at h
 ·rename_i l J;simp only[za1] at h;subst h;simp only[kj,V,Y,zbZ];exact mM J hi
 ·split at h
  ·rename_i l J;simp only[za1] at h;subst h;simp only[kj,V,Y,zbZ];exact mN J hi
  ·exact h
theorem qR {r:zdN} {n s e:Nat} (hl:r.length=n*s) (Z:e<n):je r s e=(r.drop (e*s)).take s:=by
 unfold je;cases V:Nat.beq s 1 with
 |false=>rfl
 |true=>
  have V:=zab V;subst V;have J:e<r.length:=by omega
  simp only[zdu];have key: ∀x:SV,r[e]? =some x-> [x]=(r.drop (e*1)).take 1:=by
   intro x Y;rw[zbZ];rw[zaa J] at Y;rw[zaH J];simp only[za1] at Y;simp[Y]
  cases h1:oY r with
  |some l=>exact key _ (mM h1 J)
  |none=>
   cases h2:oZ .i64 r with
   |some l=>exact key _ (mN h2 J)
   |none=>rfl
variable {op:BinOp} {x y r:SV} {n:Bool}
theorem agq (J:J8 P op t x y=some (n,r)):r.ids= []:=by
 unfold J8 at J;split at J
 ·unfold J7 at J;split at J
  ·simp at J;rw[<-J.2];simp[SV.ids]
  ·simp at J;rw[<-J.2];simp[SV.ids]
  ·rename_i k1 Y k2 Z _ _ _;cases V:kEq k1 k2 with
   |false=>simp[V] at J
   |true=>
    simp only[V,zdu] at J;split at J<;>simp only[za1,zag,reduceCtorEq] at J<;>rw[<-J.2]<;>simp[SV.ids]
 ·unfold wk at J;split at J<;>simp only[za1,zag,reduceCtorEq] at J<;>rw[<-J.2]<;>simp[SV.ids]
 ·unfold DD at J;split at J<;>simp only[za1,zag,reduceCtorEq] at J<;>rw[<-J.2]<;>simp[SV.ids]
 ·cases hg:P.eqGuardType P.depth t with
  |true=>simp[hg] at J
  |false=>
   simp only[hg,zdt] at J;unfold DD at J;split at J<;>simp only[za1,zag,reduceCtorEq] at J<;>rw[<-J.2]<;>simp[SV.ids]
 ·cases J
theorem agr {z:Operand} (J:agm P op t z x y=some (n,r)):r.ids= []:=by
 unfold agm at J;split at J
 ·unfold K0 at J;split at J<;>simp only[za1,zag,reduceCtorEq] at J<;>rw[<-J.2]<;>rfl
 ·unfold K0 at J;split at J<;>simp only[za1,zag,reduceCtorEq] at J<;>rw[<-J.2]<;>rfl
 ·exact agq J
theorem uY {Γ:zdR} (hΓ:GamOK P W0 Γ) (h:FR β A a) {w:World} (V:BC W0 A.bl β w) (hG:DX a G) {id:Nat} (hid:A.bl id=none)
 (o:Oper) {E:Eff} (J:eff P Γ A.hq A.tm A.bl G id o.op=some E) (hn:E.need=true):Runs P W0 A.bl id E β w (execOp a.eval o):=by
 obtain⟨dst,op,ty,pos,after,gd⟩:=o;cases op with
 |move x=>
  simp only[eff] at J;obtain⟨s,Y,rfl⟩:=cJ J;obtain⟨e1,Z⟩:=bu h hG Y;exact Runs.value' V (by simp[execOp,e1]) rfl rfl Z
 |assign x=>
  simp only[eff] at J;obtain⟨s,Y,rfl⟩:=cJ J;obtain⟨e1,Z⟩:=bu h hG Y;exact Runs.value' V (by simp[execOp,e1]) rfl rfl Z
 |pick c x y=>
  simp only[eff] at J;split at J
  ·rename_i t;split at J
   ·rename_i b hb;split at J
    ·rename_i sx sy hx hy;obtain⟨s,Y,rfl⟩:=cJ J;unfold Ga at Y;split at Y
     ·rename_i p q;simp at Y;subst Y;obtain⟨e1,_⟩:=bu h hG hb;have ht:a.tmps.getD t undef= .bool b:=e1;refine Runs.value' V ?_ rfl rfl (aW (by simp[SV.ids]));cases b
      ·obtain⟨e3,_⟩:=bu h (nV hG ht) hy;simp[execOp,e1,e3,SV.conc,asBool]
      ·obtain⟨e2,_⟩:=bu h (nV hG ht) hx;simp[execOp,e1,e2,SV.conc,asBool]
     ·simp only[za1] at Y;subst Y;obtain⟨e1,_⟩:=bu h hG hb;have ht:a.tmps.getD t undef= .bool b:=e1;cases b
      ·obtain⟨e3,l3⟩:=bu h (nV hG ht) hy;exact Runs.value' V (by simp[execOp,e1,e3,SV.conc,asBool]) rfl rfl l3
      ·obtain⟨e2,l2⟩:=bu h (nV hG ht) hx;exact Runs.value' V (by simp[execOp,e1,e2,SV.conc,asBool]) rfl rfl l2
    ·cases J
   ·cases J
  ·cases J
 |alloc t=>
  simp only[eff] at J;split at J
  ·rename_i cs hz;simp at J;obtain⟨v,hv,hc,hi⟩:=pb (β:=β) w hz;have k:=Runs.var (P:=P) V hid (t:=t) hc (λs Y=>aW (hi s Y)) J.symm;simp only[execOp];have e: ∀(w':World) r,Sem.run P (do pure (Next.value (Value.pointer (some (<-newVar t v))))) w=r->Sem.run P (do pure (Next.value (<-Instr.alloc t true (.tuple #[])))) w=r:=by
    intro w' r hr;rw[<-hr];simp[Instr.alloc,hv]
   rcases k with ⟨w',β',h1,g⟩|⟨w',β',h1,h2,g⟩|⟨f,args,h1,g⟩
   ·exact .inl ⟨w',β',e w' _ h1,g⟩
   ·exact .inr (.inl ⟨w',β',e w' _ h1,h2,g⟩)
   ·exact .inr (.inr ⟨f,args,e w _ h1,g⟩)
  ·cases J
 |box t x=>
  simp only[eff] at J;split at J
  ·cases J
  ·rename_i v hna hv;simp at J;obtain⟨e1,Z⟩:=bu h hG hv;have hc:=SV.cells_conc β v (λcs hh=>hna cs hh);have hl: ∀s∈v.cells,Live A.bl s:=by
    intro s Y;cases v with
    |agg cs=>exact λi hi=>Z i (by simp only[SV.ids];exact SV.mem_idss.2 ⟨s,Y,hi⟩)
    |_=>simp[SV.cells] at Y;subst Y;exact Z
   have k:=Runs.var (P:=P) V hid (t:=t) hc hl J.symm;simp only[execOp,Instr.box,e1];simpa using k
  ·cases J
 |build t parts=>
  simp only[eff] at J;split at J
  ·rename_i cs ps hz hp;obtain⟨v,hv,hc,hi⟩:=pb (β:=β) w hz;obtain⟨e1,Z⟩:=jf h hG hp;have e2:(parts.map λ(i,x)=>(i,a.eval x)).toList=ps.map (λp=>(p.1,p.2.conc β)):=by simpa using e1
   have hcs: ∀s∈cs,Live A.bl s:=λs Y=>aW (hi s Y);have hna: ∀p∈ps,∀c,p.2≠ .val (.agg c):=λp hp=>(Z p hp).2;have hfin: ∀r:zdN,(∀s∈r,s∈cs\/ ∃p∈ps,s∈p.2.cells)->Live A.bl (.agg r):=by
    intro r hr i hi;simp only[SV.ids] at hi;obtain⟨s,Y,hi⟩:=SV.mem_idss.1 hi;rcases hr s Y with h1|⟨p,hp,h1⟩
    ·exact hcs s h1 i hi
    ·exact rW (Z p hp).1 s h1 i hi
   split at J
   ·rename_i fs hu;split at J
    ·rename_i pl hpl;split at J
     ·rename_i r hr;simp at J;subst J;obtain⟨k1,k2,_⟩:=jV (β:=β) ps cs r hr hna;refine Runs.value V ?_ rfl rfl (hfin r k2);simp only[Instr.build,zdI,hv,zdH,run_underlying hu,zdf,e2,hc,SV.conc];have hpp:=run_places (P:=P) w fs.toList pl (rU hpl);simp only[Sem.run_map,zdI,zdJ] at hpp ⊢;simp[hpp,k1]
     ·cases J
    ·cases J
   ·rename_i n e hu;split at J
    ·rename_i sz hsz;split at J
     ·rename_i r hr;simp at J;subst J;obtain⟨k1,k2,_⟩:=jV (β:=β) ps cs r hr hna;refine Runs.value V ?_ rfl rfl (hfin r k2);simp only[Instr.build,zdI,hv,zdH,run_underlying hu,eF w hsz,hc,e2,k1,zdJ,SV.conc]
     ·cases J
    ·cases J
   ·cases J
  ·cases J
 |buildSlice t n parts=>
  simp only[eff] at J;split at J
  ·rename_i e ps hu hp;obtain⟨e1,Z⟩:=jf h hG hp;have e2:(parts.map λ(i,x)=>(i,a.eval x)).toList=ps.map (λp=>(p.1,p.2.conc β)):=by simpa using e1
   have hna: ∀p∈ps,∀c,p.2≠ .val (.agg c):=λp hp=>(Z p hp).2;split at J
   ·rename_i s z hsz hz;obtain⟨v,hv,hc,hi⟩:=pb (β:=β) w hz;cases hb:(Nat.beq z.length s&&Nat.ble (n*s) 16777216&&Nat.ble 1 s) with
    |false=>rw[hb] at J;simp at J
    |true=>
     rw[hb] at J;simp only[zdu] at J;simp only[za2] at hb;have b1:=zab hb.1.1;have b2:=zak hb.1.2;have b3:=zak hb.2;split at J
     ·rename_i r hr;simp at J;subst J;obtain⟨k1,k2,k3⟩:=jV (β:=β) ps _ r hr hna;have hlen:r.length=n*s:=by rw[k3];simp[b1]
      have hlive: ∀x∈r,Live A.bl x:=by
       intro x hx;rcases k2 x hx with h1|⟨p,hp,h1⟩
       ·simp only[List.mem_flatten,List.mem_replicate] at h1;obtain⟨l,⟨_,rfl⟩,hx⟩:=h1;exact aW (hi x hx)
       ·exact rW (Z p hp).1 x h1
      have kk:=V.alloc (id:=id) hid (B:={n:=n,sz:=s,get:=je r s,kd:= .own}) rfl
       (λe J=>by
         have:(e+1)*s<=n*s:=zbm _ J;rw[zaG] at this;simp only[];rw[qR hlen J]
         simp[hlen];omega)
       (λe o x J hx=>by
         simp only[] at hx;rw[qR hlen J] at hx
         exact hlive x (zbD (zbd (zal hx)))) r hlen
       (λe o x J hx=>by
         have ho:o<s:=by
          simp only[] at hx;rw[qR hlen J] at hx;rcases zah o s with h'|h'
          ·exact h'
          ·rw[zad (by simp;omega)] at hx;cases hx
         simp only[] at hx;rw[qR hlen J] at hx;rw[zcc ho,zcy] at hx
         exact hx) e
      refine .inl ⟨_,_, ?_,⟨kk,λi hi=>aC (λe=>hi (e▸hid)), ?_⟩⟩
      ·have hz0:(if n*s=0 then(#[]:Array Value) else(SV.concs β z).toArray)=if n*s=0 then #[] else(SV.concs β z).toArray:=rfl
       have hzc:(Array.range (n*s)).map (λi=>(SV.concs β z).toArray[i%(SV.concs β z).toArray.size]!)=(SV.concs β (List.replicate n z).flatten).toArray:=by
        have hzl:(SV.concs β z).length=s:=by rw[SV.concs_eq,zaB,b1]
        apply Array.ext_getElem?;intro i;by_cases hi:i<n*s
        ·have g:=QX (SV.concs β z) (by intro e;rw[e] at hzl;simp at hzl;omega) n i (by rw[hzl];exact hi);have hm:i%s<s:=zar _ (by omega);rw[hzl] at g;have g2:SV.concs β (List.replicate n z).flatten=(List.replicate n (SV.concs β z)).flatten:=by
          simp[SV.concs_eq,List.map_flatten]
         rw[g2];simp only[zde,g,zbq,hzl];rw[Array.getElem?_map,Array.getElem?_range];simp[hi];rw[zaa (by omega)];rfl
        ·rw[zcD (by simp;omega),zcD (by simp[SV.concs_eq,b1];omega)]
       simp only[execOp,Instr.buildSlice,zdI,run_underlying hu,zdH,eF w hsz,Sem.run_ite,e2];rw[if_neg (by omega)];by_cases h0:n*s=0
       ·have hn0:n=0:=by rcases Nat.mul_eq_zero.1 h0 with h|h<;>omega
        subst hn0;simp only[zcE,if_true,zdJ,zdH,Array.range_zero',Array.map_empty] at hzc k1 ⊢;simp only[List.replicate_zero,List.flatten_nil,SV.concs] at k1;simp only[k1];simp only[newRow,zdI,run_newObj,zdH,zdJ,World.alloc_eq,SV.conc,addr,aA];simp[Bool.cond_self]
       ·rw[if_neg h0];simp only[zdI,hv,zdH,zdJ,hc,hzc,k1];simp only[newRow,zdI,run_newObj,zdH,zdJ,World.alloc_eq,SV.conc,addr,aA];simp[Bool.cond_self]
      ·intro i hi;simp only[SV.ids,zaj] at hi;subst hi;simp[VO,az]
     ·cases J
   ·cases J
  ·cases J
 |load t x=>
  simp only[eff] at J;split at J
  ·rename_i s Y;obtain⟨e1,Z⟩:=bu h hG Y;obtain⟨ad,h1,h2,h3,h4,h5⟩:=qe (P:=P) V J hn;refine Runs.value V ?_ h4 h5 h3;simp only[Instr.loadAt,e1,h1,Instr.sureAddr,zdI,zdJ,zdH,h2]
  ·cases J
 |store t x y=>
  simp only[eff] at J;split at J
  ·rename_i s v Y hv;obtain⟨e1,Z⟩:=bu h hG Y;obtain⟨e2,l2⟩:=bu h hG hv;obtain⟨ad,i,e,off,B,w',h1,h2,h3,h4,h5,h6,h7⟩:=wu (P:=P) V J hn l2;refine .inr (.inl ⟨w',β, ?_,h6,⟨?_,λ_ _=>rfl, ?_⟩⟩)
   ·simp only[execOp,Instr.storeAt,e1,h1,e2,Instr.sureAddr,zdI,zdJ,zdH,h2]
   ·simp only[VO,h4,h5,h3];exact h7
   ·rw[h6];exact aW (by simp[SV.ids])
  ·cases J
 |nilCheck x=>
  simp only[eff] at J;split at J
  ·rename_i i e off Y;simp at J;subst J;obtain⟨e1,Z⟩:=bu h hG Y;exact Runs.value' V (by simp[execOp,e1,SV.conc]) rfl rfl Z
  ·rename_i f as cs Y;simp at J;subst J;obtain⟨e1,Z⟩:=bu h hG Y;exact Runs.value' V (by simp[execOp,e1,SV.conc]) rfl rfl Z
  ·cases J
 |binOp bop t x y ty2=>
  simp only[eff] at J;split at J
  ·rename_i s v Y hv;obtain⟨n,r,hr,rfl⟩:=ia J;replace hr:=rS hr hn;obtain⟨e1,Z⟩:=bu h hG Y;obtain⟨e2,l2⟩:=bu h hG hv;have k:=aet (P:=P) (β:=β) hr hn x (λv hv'=>by subst hv';rw[<-e2];rfl) w;refine Runs.value V ?_ rfl rfl ?_
   ·rw[e1,e2];exact k
   ·refine aW ?_;exact agr hr
  ·cases J
 |unOp uop t x=>
  simp only[eff] at J;split at J
  ·rename_i s Y;obtain⟨n,r,hr,rfl⟩:=ia J;replace hr:=rS hr hn;obtain⟨e1,Z⟩:=bu h hG Y;refine Runs.value V (by rw[e1];exact DH hr hn w) rfl rfl (aW ?_);unfold unS at hr;split at hr<;>simp only[za1,zag,reduceCtorEq] at hr<;>rw[<-hr.2]<;>simp[SV.ids]
  ·cases J
 |convert src dst2 x=>
  simp only[eff] at J;split at J
  ·rename_i k n Y;obtain⟨e1,Z⟩:=bu h hG Y;split at J
   ·rename_i d k' hu hd;simp at J;subst J;refine Runs.value V ?_ rfl rfl (aW (by simp[SV.ids]));simp only[e1,SV.conc,convert,zdI,run_underlying hu,run_underlying hd,zdH,Conv.intToInt];simp[g9 hn]
   ·cases J
  ·rename_i str Y;obtain⟨e1,Z⟩:=bu h hG Y;split at J
   ·rename_i d hu hd;simp at J;subst J;refine Runs.value V ?_ rfl rfl (aW (by simp[SV.ids]));simp only[e1,SV.conc,convert,zdI,run_underlying hu,run_underlying hd,zdH];simp
   ·cases J
  ·rename_i i e n Y;obtain⟨e1,Z⟩:=bu h hG Y;split at J
   ·rename_i el B hu hd hB;split at J
    ·rename_i hel hk;split at J
     ·rename_i r hr;cases hb:(Nat.beq B.sz 1&&B.nn&&Nat.beq e 0) with
      |false=>rw[hb] at J;simp at J
      |true=>
       rw[hb] at J;simp only[zdu,za1] at J;subst J;simp only[za2] at hb;have hsz1:=zab hb.1.1;have hle:e+n<=B.n:=zdx hn;have q:=V.blk i B hB (by rw[hk];simp);have he0:=zab hb.2;have hsc:=jq (β:=β) (id:=i) (e:=e) (len:=n) (q.nn hb.1.2) (.inr he0);have hl:=Yt hr;obtain⟨zs,hz1,hz2⟩:=uX hr;have hl2:zs.length=n:=by rw[hz1] at hl;simpa using hl
       have hc:=run_loadCells_list (P:=P) w (addr β i e 0) (zs.map (Value.int .u8)) (λj v hv=>by
        rw[jr];rw[zaL] at hv;cases hj:zs[j]? with
        |none=>simp[hj] at hv
        |some z=>
         simp[hj] at hv;subst hv;have hjn:j<n:=by
          rcases zah j n with h'|h'
          ·exact h'
          ·rw[zad (by omega)] at hj;cases hj
         have hg:=hz2 j z hj;have:=q.val (e+j) (by omega) 0 (.val (.int .u8 z)) (by rw[hg];rfl);simp only[addr,q.sz,hsz1,SV.conc] at this ⊢;rw[show (β i).off+e*1+(0+j)=(β i).off+(e+j)*1+0 by omega]
         exact this)
       rw[zaB,hl2] at hc;have hbs:=run_bytesToString (P:=P) w (addr β i e 0) n ((β i).cap - e) zs hc;refine Runs.value V ?_ rfl rfl (aW (by simp[SV.ids]));rw[hsc] at e1;simp only[e1,convert,zdI,run_underlying hu,run_underlying hd,zdH,run_underlying hel,hbs,SV.conc];rw[rY,hz1];rfl
     ·cases J
    ·cases J
   ·cases J
  ·cases J
 |makeFunc f first caps=>
  simp only[eff] at J;split at J
  ·rename_i as cs h1 h2;simp at J;subst J;obtain⟨e1,Z⟩:=j0 h hG h1;obtain⟨e2,l2⟩:=j0 h hG h2;have e3:first.map a.eval=(SV.concs β as).toArray:=by apply zaW;simp[e1]
   have e4:caps.map a.eval=(SV.concs β cs).toArray:=by apply zaW;simp[e2]
   refine Runs.value V (by simp[Instr.makeFunc,e3,e4,SV.conc]) rfl rfl ?_;intro i hi;simp only[SV.ids,za8] at hi;rcases hi with hi|hi
   ·obtain⟨s,Y,hi⟩:=SV.mem_idss.1 hi;exact Z s Y i hi
   ·obtain⟨s,Y,hi⟩:=SV.mem_idss.1 hi;exact l2 s Y i hi
  ·cases J
 |slice t x lo hi mx=>
  cases mx with
  |some m=>simp[eff] at J
  |none=>
   simp only[eff] at J;split at J
   ·rename_i str Y hu;obtain⟨e1,Z⟩:=bu h hG Y;split at J
    ·rename_i b l r hb;cases hc:((lo.isSome==(lo.bind (ev A.tm G)).isSome)&&(hi.isSome==(hi.bind (ev A.tm G)).isSome)) with
     |false=>rw[hc] at J;simp at J
     |true=>
      rw[hc] at J;simp only[zdu,za1] at J;subst J;simp only[za2] at hc;have e2:=jW h hG hc.1;have e3:=jW h hG hc.2;obtain⟨k,_,_⟩:=Af (P:=P) (β:=β) hb hn false w;refine Runs.value V ?_ rfl rfl (aW (by simp[SV.ids]));simp only[Instr.sliceAt,Instr.slice,e1,SV.conc,zdI,run_underlying hu,zdH,zcF,Option.isSome_none,zbo,if_false,e2,e3,k,zdJ]
    ·cases J
   ·rename_i id' e n el Y hu;obtain⟨e1,Z⟩:=bu h hG Y;split at J
    ·rename_i b l r B s hb hB hsz
     have key:B.kd≠ .gone->(bif (lo.isSome==(lo.bind (ev A.tm G)).isSome)&&(hi.isSome==(hi.bind (ev A.tm G)).isSome)&&Nat.beq s B.sz then
      some ({need:=b&&decide (e+n<=B.n)&&(bif Nat.beq e 0||Nat.beq l 0 then true else decide (e+l<B.n)),out:= .slc id' (e+l) (r - l),rd:= [id']}:Eff) else none)=some E->Runs P W0 A.bl id E β w (execOp a.eval ⟨dst, .slice t x lo hi none,ty,pos,after,gd⟩):=by
      intro hg J;cases hc:((lo.isSome==(lo.bind (ev A.tm G)).isSome)&&(hi.isSome==(hi.bind (ev A.tm G)).isSome)&&Nat.beq s B.sz) with
      |false=>rw[hc] at J;simp at J
      |true=>
       rw[hc] at J;simp only[zdu,za1] at J;subst J;simp only[za2,zdw] at hc hn;obtain⟨⟨hn1,hn2⟩,hn3⟩:=hn;have hse:=zab hc.2;have e2:=jW h hG hc.1.1;have e3:=jW h hG hc.1.2;have q:=V.blk id' B hB hg;have hcap:=q.le;obtain⟨k,k1,k2⟩:=qb (P:=P) (β:=β) (cap:=(β id').cap - e) hb hn1 (by omega) true w;refine Runs.value V ?_ rfl rfl Z;simp only[Instr.sliceAt,Instr.slice,e1,SV.conc,zdI,run_underlying hu,zdH,zcF,e2,e3,k,zdJ,eF w hsz];rw[show (β id').cap - e - l=(β id').cap - (e+l) by omega]
       congr 2
       cases hnil:(β id').nil with
       |true=>
        simp only[zdu,zcF,ite_self]
       |false=>
        simp only[zdt,zb0];simp only[bS];by_cases hml:(β id').cap - e=l
        ·rw[if_pos hml]
         congr 2
         by_cases he0:e=0
         ·subst he0;have:(β id').cap=l:=by omega
          simp[this]
         ·by_cases hl0:l=0
          ·subst hl0;simp
          ·exfalso;rw[bS,bS] at hn3;simp[he0,hl0] at hn3;omega
        ·rw[if_neg hml];have h3:(β id').cap≠e+l:=by omega
         congr 1
         by_cases hce:(β id').cap=e
         ·exfalso;omega
         ·simp only[hce,h3,decide_false,zdt,addr,Addr.add];split
          ·rename_i hz;rw[q.sz] at*
           rw[hse] at hz;simp only[zaG]
           congr 1
           omega
          ·congr 1
           rw[q.sz,hse,zaG];omega
     split at J
     ·cases J
     ·rename_i hk;exact key (λe=>hk e) J
    ·cases J
   ·cases J
 |fieldAddr t x i=>
  simp only[eff] at J;split at J
  ·rename_i id' e off f Y hf;obtain⟨e1,Z⟩:=bu h hG Y;obtain⟨fs,hu,hf'⟩:=mw hf;split at J
   ·rename_i n hsz;simp at J;subst J;refine Runs.value V ?_ rfl rfl Z;simp only[Instr.fieldAt,e1,SV.conc,zdI,run_underlying hu,zdH,hf',Instr.sureAddr,zdJ,fieldPlace,eF w hsz,Sem.run_ite];rw[if_neg (by omega)];simp[jr]
   ·cases J
  ·cases J
 |field t x i=>
  simp only[eff] at J;split at J
  ·rename_i cs f Y hf;obtain⟨e1,Z⟩:=bu h hG Y;obtain⟨fs,hu,hf'⟩:=mw hf;obtain⟨s,hp,rfl⟩:=cJ J;obtain⟨k1,k2⟩:=fC (β:=β) w hp;refine Runs.value V ?_ rfl rfl ?_
   ·simp only[Instr.field,e1,SV.conc,zdI,run_underlying hu,zdH,hf',asAgg,zdJ,k1]
   ·intro j hj;exact Z j (by simp only[SV.ids];exact k2 j hj)
  ·cases J
 |indexAddr t x i=>
  simp only[eff] at J;split at J
  ·rename_i id' e off k ix Y hi;obtain⟨e1,Z⟩:=bu h hG Y;obtain⟨e2,l2⟩:=bu h hG hi;split at J
   ·rename_i n el hu;split at J
    ·rename_i s hsz;simp at J;subst J;simp at hn;refine Runs.value V ?_ rfl rfl Z;simp only[Instr.indexAt,e1,e2,SV.conc,asIntOf,zdI,zdJ,zdH,run_underlying hu,Instr.sureAddr,hn,and_self,if_true,eF w hsz,jr]
    ·cases J
   ·cases J
  ·rename_i id' e n k ix Y hi;obtain⟨e1,Z⟩:=bu h hG Y;obtain⟨e2,l2⟩:=bu h hG hi;split at J
   ·rename_i el B hu hB;split at J
    ·cases J
    ·rename_i s hsz hng;cases hb:Nat.beq s B.sz with
     |false=>rw[hb] at J;simp at J
     |true=>
      rw[hb] at J;simp only[zdu,za1] at J;subst J;have hse:=zab hb;have q:=V.blk id' B hB hng;have hnl:(0<=ix/\ix<n)/\(β id').nil=false/\((β id').cap≠e\/e=0):=by
       cases hnn:(B.nn&&Nat.beq e 0) with
       |true=>
        simp only[hnn,zdu,za2,zdw] at hn;simp only[za2] at hnn;exact⟨hn,q.nn hnn.1, .inr (zab hnn.2)⟩
       |false=>
        simp only[hnn,zdt,za2,zdw] at hn;have:=q.le;exact⟨hn.1,q.not_nil hn.2, .inl (by omega)⟩
      obtain⟨hn,hnil,hce⟩:=hnl;refine Runs.value V ?_ rfl rfl Z;rw[jq hnil hce] at e1;simp only[Instr.indexAt,e1,e2,SV.conc,asIntOf,zdI,zdJ,zdH,run_underlying hu,hn,and_self,if_true,eF w hsz,jr];have hadr:addr β id' e (0+ix.toNat*s)=addr β id' (e+ix.toNat) 0:=by
       simp only[addr,q.sz,hse,zaG,za7,zaY,zbr]
      rw[hadr]
    ·cases J
   ·cases J
  ·cases J
 |index t x i=>
  simp only[eff] at J;split at J
  ·rename_i cs k ix Y hi;obtain⟨e1,Z⟩:=bu h hG Y;obtain⟨e2,l2⟩:=bu h hG hi;split at J
   ·rename_i n el hu;split at J
    ·rename_i hsz;split at J
     ·rename_i hag;cases hcl:Nat.beq cs.length n with
      |false=>rw[hcl] at J;simp at J
      |true=>
       rw[hcl] at J;simp only[zdu] at J;split at J
       ·rename_i v hv;simp at J;subst J;simp at hn;have hlen:=zab hcl;have hv':=DJ (P:=P) (el:=el) (cs:=cs) (i:=ix.toNat) hag hsz (by omega) hv;obtain⟨k1,k2⟩:=fC (β:=β) w hv';refine Runs.value V ?_ rfl rfl (λj hj=>Z j (by simp only[SV.ids];exact k2 j hj));simp only[Instr.index,e1,e2,SV.conc,asIntOf,zdI,zdJ,zdH,run_underlying hu,hn,and_self,if_true,eF w hsz,k1]
       ·cases J
     ·cases J
    ·rename_i s hsz;split at J
     ·rename_i v hv;simp at J;subst J;simp at hn;obtain⟨k1,k2⟩:=fC (β:=β) w hv;refine Runs.value V ?_ rfl rfl (λj hj=>Z j (by simp only[SV.ids];exact k2 j hj));simp only[Instr.index,e1,e2,SV.conc,asIntOf,zdI,zdJ,zdH,run_underlying hu,hn,and_self,if_true,eF w hsz,k1]
     ·cases J
    ·cases J
   ·cases J
  ·rename_i str k ix Y hi;obtain⟨e1,Z⟩:=bu h hG Y;obtain⟨e2,l2⟩:=bu h hG hi;split at J
   ·rename_i hu;simp at J;subst J;simp at hn;have hb:=yc hn.1 hn.2;refine Runs.value V ?_ rfl rfl (aW (by simp[SV.ids]));cases hc:(if 0<=ix then str[ix.toNat]? else none) with
    |none=>rw[hc] at hb;simp at hb
    |some b=>
     rw[hc] at hb;simp at hb;simp only[Instr.index,e1,e2,SV.conc,asIntOf,zdI,zdJ,zdH,run_underlying hu,hc,hb]
   ·cases J
  ·cases J
 |lookup t m k ok=>
  simp only[eff] at J;split at J
  ·rename_i sm sk hm hk;obtain⟨e1,_⟩:=bu h hG hm;obtain⟨e2,_⟩:=bu h hG hk;obtain⟨i,B,_,_,_,hw,hnw,_⟩:=lI J;obtain⟨r1,r2⟩:=Ah V J hn;exact Runs.value V (by rw[e1,e2];exact r1) hw hnw r2
  ·cases J
 |extract x i=>
  simp only[eff] at J;split at J
  ·rename_i vs Y;obtain⟨e1,Z⟩:=bu h hG Y;obtain⟨s,hp,rfl⟩:=cJ J;refine Runs.value V ?_ rfl rfl ?_
   ·have:(SV.concs β vs).toArray[i]? =some (s.conc β):=by simp[SV.concs_eq,hp]
    simp[Instr.extract,e1,SV.conc,this]
   ·intro j hj;exact Z j (by simp only[SV.ids];exact SV.mem_idss.2 ⟨s,zal hp,hj⟩)
  ·cases J
 |call c=>
  simp only[eff] at J
  have key: ∀f args,target A.tm G c=some (f,args)->(match Γ f with
   |some k=>pY (k args)
   |none=>none)=some E->Runs P W0 A.bl id E β w (execOp a.eval ⟨dst, .call c,ty,pos,after,gd⟩):=by
   intro f args ht J;split at J
   ·rename_i k hk;obtain⟨n,s,Y,rfl⟩:=ia J;obtain⟨r1,Z⟩:=nR h hG ht (hΓ.call f k hk) ty w;obtain⟨c1,c2⟩:=hΓ.ctr f k hk β w args n s V.below Y hn;refine .inr (.inr ⟨f,_,r1, ?_⟩);refine Calls.mono c2 ?_;rintro e w' ⟨rfl,h1⟩;exact⟨β,rfl,⟨by simp only[VO];exact V.step h1,λ_ _=>rfl,aW c1⟩⟩
   ·cases J
  split at J
  ·rename_i b hcal;split at J
   ·rename_i args has;obtain⟨e1,Z⟩:=j0 h hG has;have e3:c.args.map a.eval=(SV.concs β args).toArray:=by apply zaW;simp[e1]
    unfold ae2 at J;split at J
    ·split at J
     ·rename_i t x ht;obtain⟨s,Y,rfl⟩:=cJ J;obtain⟨k1,k2⟩:=Ag (β:=β) Y ty w;refine Runs.value' V ?_ rfl rfl (aW k2);have k3:(Builtin.len_ c.argTypes ty (SV.concs β [x]).toArray).run P w= .ok (s.conc β) w:=by
       rw[<-k1];simp only[Builtin.len_,ht,SV.concs];simp
      simp only[execOp,resolve,hcal,zdI,zdJ,zdH,invoke,builtin,e3,k3]
     ·cases J
    ·split at J
     ·rename_i x r;obtain⟨s,Y,rfl⟩:=cJ J;obtain⟨k1,k2⟩:=pd (P:=P) (β:=β) x r s w Y;refine Runs.value' V ?_ rfl rfl (by rcases k2 with rfl|k2;exact Z _ (by simp);exact aW k2);simp only[execOp,resolve,hcal,zdI,zdJ,zdH,invoke,builtin,e3,Builtin.max_,SV.concs] at k1 ⊢;simp only[if_true] at k1;simp[k1]
     ·cases J
    ·split at J
     ·rename_i x r;obtain⟨s,Y,rfl⟩:=cJ J;obtain⟨k1,k2⟩:=pd (P:=P) (β:=β) x r s w Y;refine Runs.value' V ?_ rfl rfl (by rcases k2 with rfl|k2;exact Z _ (by simp);exact aW k2);simp only[execOp,resolve,hcal,zdI,zdJ,zdH,invoke,builtin,e3,Builtin.min_,SV.concs] at k1 ⊢;simp only[zbo,if_false] at k1;simp[k1]
     ·cases J
    ·cases J
   ·cases J
  ·split at J
   ·rename_i f args ht;exact key f args ht J
   ·cases J
 |_=>simp[eff] at J
end
section
variable {P:Program} {W0:Base}
structure Tr (bl:Nat->Option Blk) (nx:Nat) (W:List Nat) (β:Nat->Loc) (bl':Nat->Option Blk) (β':Nat->Loc):Prop where
 keep: ∀i B,bl i=some B-> ∃B',bl' i=some B'/\B'.n=B.n/\(B'.sz=B.sz/\B'.nn=B.nn)/\(B'.kd=B.kd\/B'.kd= .gone)/\(i∉W->B'=B)
 same: ∀i,bl i≠none->β' i=β i
 new: ∀i,i<nx->bl i=none->bl' i=none
theorem Tr.refl (bl:zdP) (nx:Nat) (W:zdL) (β:zdM):Tr bl nx W β bl β:=⟨λi B h=>⟨B,h,rfl,⟨rfl,rfl⟩, .inl rfl,λ_=>rfl⟩,λ_ _=>rfl,λ_ _ h=>h⟩
variable {bl bl':zdP} {nx:Nat} {W:zdL} {β β':zdM}
theorem Tr.dom (h:Tr bl nx W β bl' β') {i:Nat} (hi:bl i≠none):bl' i≠none:=by
 cases J:bl i with
 |none=>exact absurd J hi
 |some B=>obtain⟨B',h1,_⟩:=h.keep i B J;rw[h1];simp
variable {b0 b1:zdP} {U:zdL} {β0 β1:zdM}
theorem Tr.trans {b2:zdP} {nx':Nat} {V:zdL} {β2:zdM} (h:Tr b0 nx W β0 b1 β1) (k:Tr b1 nx' V β1 b2 β2) (hn:nx<=nx') (hW: ∀i∈W,i∈U) (hV: ∀i∈V,i∈U):Tr b0 nx U β0 b2 β2:=by
 refine⟨λi B hB=> ?_,λi hi=>(k.same i (h.dom hi)).trans (h.same i hi),λi hi h0=>k.new i (by omega) (h.new i hi h0)⟩;obtain⟨Z,h1,a1,Y,a3,a4⟩:=h.keep i B hB;obtain⟨B2,h2,c1,c2,J,c4⟩:=k.keep i Z h1;exact⟨B2,h2,c1.trans a1,⟨c2.1.trans Y.1,c2.2.trans Y.2⟩,J.elim (λJ=>by rw[J];exact a3) .inr,λhi=>(c4 λhv=>hi (hV i hv)).trans (a4 λhw=>hi (hW i hw))⟩
theorem Tr.mono (h:Tr b0 nx W β0 b1 β1) (hW: ∀i∈W,i∈U):Tr b0 nx U β0 b1 β1:=
 ⟨λi B hB=>by
   obtain⟨J,h1,V,Y,Z,a4⟩:=h.keep i B hB
   exact⟨J,h1,V,Y,Z,λhi=>a4 λhw=>hi (hW i hw)⟩,h.same,h.new⟩
variable {s:SV}
theorem Live.tr (h:Tr bl nx W β bl' β') (J:Live bl s):Live bl' s/\s.conc β'=s.conc β:=
 ⟨λi hi=>h.dom (J i hi),SV.conc_congr s λi hi=>h.same i (J i hi)⟩
variable {id:Nat}
theorem gN (hid:bl id=none) (hnx:nx<=id) (E:Eff) (hs: ∀i,bl i≠none->β' i=β i):Tr bl nx (wrI E) β (VO bl id E) β':=by
 refine⟨λi B hB=> ?_,hs,λi hi h0=> ?_⟩
 rotate_left
 ·have V:i≠id:=by omega
  have key:(match E.wr with
   |some (i,e,o,cs)=>match bl i with
    |some B=>upd bl i (B.put e o cs)
    |none=>bl
   |none=>bl) i=none:=by
   cases Z:E.wr with
   |none=>exact h0
   |some p=>
    obtain⟨j,e,o,cs⟩:=p;simp only[];cases Y:bl j with
    |none=>exact h0
    |some C=>
     simp only[];have J:i≠j:=λe=>by rw[e,Y] at h0;cases h0
     rw[ak J];exact h0
  unfold VO;cases hn:E.nw with
  |none=>exact key
  |some N=>exact(ak V).trans key
 have V:i≠id:=λe=>by rw[e,hid] at hB;cases hB
 have key: ∃B',(match E.wr with
  |some (i,e,o,cs)=>match bl i with
   |some B=>upd bl i (B.put e o cs)
   |none=>bl
  |none=>bl) i=some B'/\B'.n=B.n/\(B'.sz=B.sz/\B'.nn=B.nn)/\(B'.kd=B.kd\/B'.kd= .gone)/\(i∉wrI E->B'=B):=by
  cases Z:E.wr with
  |none=>exact⟨B,hB,rfl,⟨rfl,rfl⟩, .inl rfl,λ_=>rfl⟩
  |some p=>
   obtain⟨j,e,o,cs⟩:=p;simp only[];cases Y:bl j with
   |none=>exact⟨B,hB,rfl,⟨rfl,rfl⟩, .inl rfl,λ_=>rfl⟩
   |some C=>
    simp only[];by_cases J:i=j
    ·subst J;rw[hB] at Y;obtain rfl:B=C:=by simpa using Y
     exact⟨_,az _ _ _,rfl,⟨rfl,rfl⟩, .inl rfl,λh=>absurd (by simp[wrI,Z]) h⟩
    ·exact⟨B,by rw[ak J];exact hB,rfl,⟨rfl,rfl⟩, .inl rfl,λ_=>rfl⟩
 obtain⟨B',h1,h2⟩:=key;refine⟨B', ?_,h2⟩;unfold VO;cases hn:E.nw with
 |none=>exact h1
 |some N=>exact(ak V).trans h1
variable {A:AS} {t:Nat}
theorem ph {d:Nat} {v:TV}:(A.put d v).tm t=if t=d then v else A.tm t:=by
 by_cases h:t=d
 ·subst h;simp[AS.put]
 ·have:Nat.beq t d=false:=by
   cases hh:Nat.beq t d with
   |false=>rfl
   |true=>exact absurd (zab hh) h
  simp[AS.put,this,h]
theorem cE (a:Act) (d t:Nat) (v:Value) (J:d<a.tmps.size):(a.put (some d) v).tmps.getD t undef=if t=d then v else a.tmps.getD t undef:=by
 by_cases h:t=d
 ·subst h;simp[Act.put,J]
 ·simp[Act.put,h,zdd (Ne.symm h)]
variable {a:Act}
theorem FR.carry (h:FR β A a) (V:Tr A.bl nx W β bl' β'):FR β' {A with bl:=bl'} a where
 defers:=by
  obtain⟨h1,h2⟩:=h.defers;refine⟨h1.trans (zbH λp hp=> ?_),λp hp s J=>(Live.tr V (h2 p hp s J)).1⟩;have e: ∀l,(∀s∈l,s∈p.2.1++p.2.2)->SV.concs β l=SV.concs β' l:=λl Y=>by
   rw[SV.concs_eq,SV.concs_eq];exact zbH λs J=>(Live.tr V (h2 p hp s (Y s J))).2.symm
  unfold NF;rw[e p.2.1 λs J=>zbI _ J,e p.2.2 λs J=>zb1 _ J]
 size:=h.size
 v t s J:=by
  obtain⟨h1,h2⟩:=h.v t s J;obtain⟨k1,k2⟩:=Live.tr V h2;exact⟨h1.trans k2.symm,k1⟩
 opt t u b s J:=by
  obtain⟨h1,h2⟩:=h.opt t u b s J;refine⟨λe=> ?_,h2⟩;obtain⟨h3,h4⟩:=h1 e;obtain⟨k1,k2⟩:=Live.tr V h4;exact⟨h3.trans k2.symm,k1⟩
 os:=h.os
variable {A':AS} {d:Option Tmp}
theorem FR.putD (h:FR β A a) (hl:Live A.bl s) (hp:putD A d (.v s)=some A'):FR β A' (a.put d (s.conc β))/\A'.bl=A.bl/\A'.nx=A.nx/\A'.nt=A.nt/\A'.wl=A.wl:=by
 cases d with
 |none=>simp[Sy.putD] at hp;subst hp;exact⟨h,rfl,rfl,rfl,rfl⟩
 |some d=>
  simp only[Sy.putD] at hp;cases hc:(Nat.blt d A.nt&& !A.ok d) with
  |false=>rw[hc] at hp;simp at hp
  |true=>
   rw[hc] at hp;simp only[zdu,za1] at hp;subst hp;simp only[za2,zap] at hc;have hlt:d<A.nt:=by have:=hc.1;simpa [zb2] using this
   have Y:d<a.tmps.size:=by rw[h.size];exact hlt
   refine⟨⟨?_, ?_, ?_, ?_, ?_⟩,rfl,rfl,rfl,rfl⟩
   ·exact h.defers
   ·simp only[AS.put,Act.put,zdg];exact h.size
   ·intro t Z V;rw[ph] at V;rw[cE a d t _ Y];by_cases J:t=d
    ·rw[if_pos J] at V ⊢;obtain rfl:s=Z:=by simpa using V
     exact⟨rfl,hl⟩
    ·rw[if_neg J] at V ⊢;exact h.v t Z V
   ·intro t u b Z V;rw[ph] at V;by_cases J:t=d
    ·rw[if_pos J] at V;cases V
    ·rw[if_neg J] at V;have hk:=(h.os t u b Z V).2;have hud:u≠d:=λe=>by rw[e,hc.2] at hk;cases hk
     rw[cE a d t _ Y,cE a d u _ Y,if_neg J,if_neg hud];exact h.opt t u b Z V
   ·intro t u b Z V;rw[ph] at V;by_cases J:t=d
    ·rw[if_pos J] at V;cases V
    ·rw[if_neg J] at V;exact h.os t u b Z V
variable {b:Bool}
theorem FR.putG (h:FR β A a) (hp:putG A d t b s=some A') {v:Value}
 (hv:(a.tmps.getD t undef= .bool b->v=s.conc β/\Live A.bl s)/\(a.tmps.getD t undef≠ .bool b->v=undef)):FR β A' (a.put d v)/\A'.bl=A.bl/\A'.nx=A.nx/\A'.nt=A.nt/\A'.wl=A.wl:=by
 cases d with
 |none=>simp[Sy.putG] at hp;subst hp;exact⟨h,rfl,rfl,rfl,rfl⟩
 |some d=>
  simp only[Sy.putG] at hp;cases hc:(Nat.blt d A.nt&& !A.ok d&& !Nat.beq d t) with
  |false=>rw[hc] at hp;simp at hp
  |true=>
   rw[hc] at hp;simp only[zdu,za1] at hp;subst hp;simp only[za2,zap] at hc;have hlt:d<A.nt:=by have:=hc.1.1;simpa [zb2] using this
   have Y:d<a.tmps.size:=by rw[h.size];exact hlt
   have hdt:d≠t:=λe=>by have:=hc.2;rw[e] at this;simp at this
   refine⟨⟨?_, ?_, ?_, ?_, ?_⟩,rfl,rfl,rfl,rfl⟩
   ·exact h.defers
   ·simp only[AS.put,Act.put,zdg];exact h.size
   ·intro x Z hx;have J:(A.put d (.opt t b s)).tm x= .v Z:=hx;rw[ph] at J;rw[cE a d x _ Y];by_cases V:x=d
    ·rw[if_pos V] at J;cases J
    ·rw[if_neg V] at J ⊢;exact h.v x Z J
   ·intro x u b' Z hx;have J:(A.put d (.opt t b s)).tm x= .opt u b' Z:=hx;rw[ph] at J;by_cases V:x=d
    ·rw[if_pos V] at J;simp only[TV.opt.injEq] at J;obtain⟨rfl,rfl,rfl⟩:=J;rw[cE a d x _ Y,cE a d t _ Y,if_pos V,if_neg (Ne.symm hdt)];exact⟨hv.1,hv.2⟩
    ·rw[if_neg V] at J;have hk:=(h.os x u b' Z J).2;have hud:u≠d:=λe=>by rw[e,hc.1.2] at hk;cases hk
     rw[cE a d x _ Y,cE a d u _ Y,if_neg V,if_neg hud];exact h.opt x u b' Z J
   ·intro x u b' Z hx;have J:(A.put d (.opt t b s)).tm x= .opt u b' Z:=hx;rw[ph] at J;by_cases V:x=d
    ·rw[if_pos V] at J;simp only[TV.opt.injEq] at J;obtain⟨rfl,rfl,rfl⟩:=J;subst V;exact⟨by simp,by simp⟩
    ·rw[if_neg V] at J;obtain⟨k1,k2⟩:=h.os x u b' Z J;refine⟨?_, ?_⟩
     ·show (bif Nat.beq x d then true else A.og x)=true;cases Nat.beq x d<;>simp[k1]
     ·show (bif Nat.beq u t then true else A.ok u)=true;cases Nat.beq u t<;>simp[k2]
variable {ops:zdS} {o:Oper}
theorem ib {j:Nat} (hg:o.guard=some (j,b)) (J:(ops.toList[j]?).bind (·.dst)=some t):
 Region.wanted o (yielded ops a.tmps)=true↔a.tmps.getD t undef= .bool b:=by
 have h1:(ops[j]?).bind (·.dst)=some t:=by simpa using J
 simp only[Region.wanted,hg,yielded,h1,zcG,zcH];cases V:a.tmps[t]? with
 |none=>simp[undef]
 |some v=>cases v<;>simp
theorem mO {Γ:zdR} (hΓ:GamOK P W0 Γ) (h:FR β A a) {w:World} (hbc:BC W0 A.bl β w) {f:ga}
 (hnx:A.nx<=id) (J:step P Γ ops id o A=some (true,A',f)) {Q:zdZ} {K:Act->World->Prop}
 (hK: ∀a' w' β',FR β' A' a'->BC W0 A'.bl β' w'->Tr A.bl A.nx f.2 β A'.bl β'->A'.nx=A.nx->A'.wl=A.wl->A'.nt=A.nt->K a' w'):
 if Region.wanted o (yielded ops a.tmps) then o.wp P a w K Q else K (a.put o.dst undef) w:=by
 unfold step at J;cases hg:o.guard with
 |none=>
  rw[hg] at J;simp only[] at J;rw[if_pos (by simp[Region.wanted,hg])];split at J
  ·rename_i E hE;cases Y:fresh A id with
   |false=>rw[Y] at J;simp at J
   |true=>
    rw[Y] at J;simp only[zdu] at J;have hid:A.bl id=none:=by
     unfold fresh at Y;cases hb:A.bl id with
     |none=>rfl
     |some B=>rw[hb] at Y;cases Y
    split at J
    ·rename_i A1 hp;simp only[za1,zag] at J;obtain⟨hn,rfl,rfl⟩:=J;have k:=uY hΓ h hbc (G:= []) (λp hp=>by cases hp) hid o hE hn;refine Runs.next k o a K Q λw' β' g=> ?_
     have tr:=gN hid hnx E g.same;obtain⟨r1,Z,r3,r4,r5⟩:=FR.putD (h.carry tr) g.live hp;exact hK _ _ β' r1 (by rw[Z];exact g.bc) (by rw[Z];exact tr.mono λi hi=>by simp[aV,hi]) r3 r5 r4
    ·cases J
  ·cases J
 |some p=>
  obtain⟨j,b⟩:=p;rw[hg] at J;simp only[] at J;split at J
  ·rename_i t ht;split at J
   ·rename_i g E htr hE;split at J
    ·rename_i hw hnw;cases Y:fresh A id with
     |false=>rw[Y] at J;simp at J
     |true=>
      rw[Y] at J;simp only[zdu] at J;have hid:A.bl id=none:=by
       unfold fresh at Y;cases hb:A.bl id with
       |none=>rfl
       |some B=>rw[hb] at Y;cases Y
      split at J
      ·rename_i A1 hp;simp only[za1,zag] at J;obtain⟨hn,rfl,rfl⟩:=J;have hgt:=p8 h 9 t b g htr;have happ:VO A.bl id E=A.bl:=by simp[VO,hw,hnw]
       have hwr:wrI E= []:=by simp[wrI,hw]
       by_cases V:a.tmps.getD t undef= .bool b
       ·rw[if_pos ((ib hg ht).2 V)];have hneed:E.need=true:=by
         have:g=true:=hgt.2 V;rw[this] at hn;unfold dC at hn;split at hn
         ·assumption
         ·simp at hn
        have k:=uY hΓ h hbc (p9 h 9 t b V) hid o hE hneed;refine Runs.next k o a K Q λw' β' g=> ?_
        have tr:=gN hid hnx E g.same;have gl:=g.live;have gb:=g.bc;rw[happ] at tr gl gb;obtain⟨r1,Z,r3,r4,r5⟩:=FR.putG (h.carry tr) hp ⟨λ_=>⟨rfl,gl⟩,λe=>absurd V e⟩;exact hK _ _ β' r1 (by rw[Z];exact gb) (by rw[Z];exact tr.mono λi hi=>by simp[aV,hi]) r3 r5 r4
       ·rw[if_neg (λe=>V ((ib hg ht).1 e))];obtain⟨r1,Z,r3,r4,r5⟩:=FR.putG h hp (v:=undef) ⟨λe=>absurd e V,λ_=>rfl⟩;exact hK _ _ β r1 (by rw[Z];exact hbc) (by rw[Z];exact Tr.refl _ _ _ _) r3 r5 r4
      ·cases J
    ·cases J
   ·cases J
  ·cases J
end
section
variable {P:Program} {W0:Base}
theorem gO {tm tm':Nat->TV} {G:List (Nat×Bool)}: ∀{l:List Operand},(∀x∈l,ev tm' G x=ev tm G x)->evs tm' G l=evs tm G l
 | [],_=>rfl
 |x::xs,h=>by simp only[evs,h x (by simp),gO (λy J=>h y (zan _ J))]
theorem jg {tm tm':Nat->TV} {G:List (Nat×Bool)}: ∀{l:List (Nat×Operand)},(∀p∈l,ev tm' G p.2=ev tm G p.2)->dJ tm' G l=dJ tm G l
 | [],_=>rfl
 |(i,x)::xs,h=>by simp only[dJ,h (i,x) (by simp),jg (λy J=>h y (zan _ J))]
variable {tm tm':Nat->TV} {G:List (Nat×Bool)}
theorem nW {c:Call} (h: ∀x∈c.operands,ev tm' G x=ev tm G x):target tm' G c=target tm G c:=by
 unfold target;cases J:c.callee with
 |value f=>
  have h1:ev tm' G f=ev tm G f:=h f (by simp[Call.operands,J]);have h2:evs tm' G c.args.toList=evs tm G c.args.toList:=gO λx V=>h x (by simp[Call.operands,J];right;simpa using V);simp only[h1,h2]
 |_=>rfl
variable {hq:Bool} {Γ:zdR} {bl:zdP} {id:Nat} {op:Op}
theorem Gw (h: ∀x∈op.operands,∀G,ev tm' G x=ev tm G x):
 eff P Γ hq tm' bl G id op=eff P Γ hq tm bl G id op:=by
 cases op with
 |pick c x y=>
  have h1:=h c (by simp[Op.operands]);have h2:=h x (by simp[Op.operands]);have h3:=h y (by simp[Op.operands]);simp only[eff,h1,h2,h3]
 |build t parts=>
  have h1:dJ tm' G parts.toList=dJ tm G parts.toList:=jg λp hp=>h p.2 (by simp[Op.operands];exact⟨p.1,by simpa using hp⟩) G;simp only[eff,h1]
 |buildSlice t n parts=>
  have h1:dJ tm' G parts.toList=dJ tm G parts.toList:=jg λp hp=>h p.2 (by simp[Op.operands];exact⟨p.1,by simpa using hp⟩) G;simp only[eff,h1]
 |makeFunc f a c=>
  have h1:evs tm' G a.toList=evs tm G a.toList:=gO λx J=>h x (by simp[Op.operands];left;simpa using J) G;have h2:evs tm' G c.toList=evs tm G c.toList:=gO λx J=>h x (by simp[Op.operands];right;simpa using J) G;simp only[eff,h1,h2]
 |slice t x lo hi V=>
  have h1:=h x (by simp[Op.operands]);have h2:lo.bind (ev tm' G)=lo.bind (ev tm G):=by
   cases lo with
   |none=>rfl
   |some l=>exact h l (by simp[Op.operands]) G
  have h3:hi.bind (ev tm' G)=hi.bind (ev tm G):=by
   cases hi with
   |none=>rfl
   |some l=>exact h l (by simp[Op.operands]) G
  cases V<;>simp only[eff,h1,h2,h3]
 |call c=>
  have h1:target tm' G c=target tm G c:=nW λx J=>h x J G;have h2:evs tm' G c.args.toList=evs tm G c.args.toList:=gO λx J=>h x (by simp[Op.operands,Call.operands];right;simpa using J) G;simp only[eff,h1,h2]
 |move x=>simp only[eff,h x (by simp[Op.operands])]
 |assign x=>simp only[eff,h x (by simp[Op.operands])]
 |box t x=>simp only[eff,h x (by simp[Op.operands])]
 |load t x=>simp only[eff,h x (by simp[Op.operands])]
 |store t x y=>simp only[eff,h x (by simp[Op.operands]),h y (by simp[Op.operands])]
 |nilCheck x=>simp only[eff,h x (by simp[Op.operands])]
 |binOp o t x y u=>simp only[eff,h x (by simp[Op.operands]),h y (by simp[Op.operands])]
 |unOp o t x=>simp only[eff,h x (by simp[Op.operands])]
 |convert s d x=>simp only[eff,h x (by simp[Op.operands])]
 |fieldAddr t x i=>simp only[eff,h x (by simp[Op.operands])]
 |field t x i=>simp only[eff,h x (by simp[Op.operands])]
 |indexAddr t x y=>simp only[eff,h x (by simp[Op.operands]),h y (by simp[Op.operands])]
 |index t x y=>simp only[eff,h x (by simp[Op.operands]),h y (by simp[Op.operands])]
 |extract x i=>simp only[eff,h x (by simp[Op.operands])]
 |lookup t m k ok=>simp only[eff,h m (by simp[Op.operands]),h k (by simp[Op.operands])]
 |_=>simp only[eff]
theorem bG {α:Type} {c:Bool} {y:Option α} {e:α} (h:(bif c then y else none)=some e):y=some e:=by
 cases c
 ·cases h
 ·exact h
variable {E:Eff}
theorem wv {bl':zdP} (J:eff P Γ hq tm bl G id op=some E)
 (h: ∀i,i∈E.rd\/i∈wrI E->bl' i=bl i):eff P Γ hq tm bl' G id op=some E:=by
 cases op with
 |lookup t m k ok=>
  simp only[eff] at J ⊢;split at J
  ·rename_i sm sk hm hk;obtain⟨i,B,_,_,Y,_,_,V⟩:=lI J;exact V bl' (h i (.inl (by rw[Y];simp)))
  ·cases J
 |load t x=>
  simp only[eff] at J ⊢;split at J
  ·rename_i s hs;unfold rH at J ⊢;split at J
   ·rename_i i e o;have Y: ∀B,bl i=some B->i∈E.rd:=by
     intro B hB;rw[hB] at J;simp only[] at J
     have: ∀(x:Option Eff),(match xW P t,szT P t with
      |some false,_=>match (B.get e)[o]? with
       |some s=>some ({need:=decide (e<B.n),out:=s,rd:= [i]}:Eff)
       |none=>none
      |some true,some n=>bif Nat.beq (((B.get e).drop o).take n).length n then some {need:=decide (e<B.n),out:= .agg (((B.get e).drop o).take n),rd:= [i]} else none
      |_,_=>none)=some E->i∈E.rd:=by
      intro x Z;split at Z
      ·split at Z
       ·simp at Z;subst Z;simp
       ·cases Z
      ·rename_i n _ _;cases V:Nat.beq (((B.get e).drop o).take n).length n with
       |false=>rw[V] at Z;simp at Z
       |true=>rw[V] at Z;simp only[zdu,za1] at Z;subst Z;simp
      ·cases Z
     split at J
     ·cases J
     ·exact this none J
    cases hB:bl i with
    |none=>rw[hB] at J;cases J
    |some B=>rw[h i (.inl (Y B hB))];exact J
   ·cases J
  ·cases J
 |store t x y=>
  simp only[eff] at J ⊢;split at J
  ·rename_i s v hs hv;unfold o9 at J ⊢;split at J
   ·rename_i i e o;have Y:i∈wrI E:=by
     split at J
     ·rename_i B hB;split at J
      ·split at J
       ·rename_i n hsz;cases V:(Nat.beq v.cells.length n&&v.cells.all SV.one&&Nat.ble (o+v.cells.length) B.sz) with
        |false=>rw[V] at J;simp at J
        |true=>rw[V] at J;simp only[zdu,za1] at J;subst J;simp[wrI]
       ·cases J
      ·cases J
     ·cases J
    simp only[h i (.inr Y)];exact J
   ·cases J
  ·cases J
 |convert src dst x=>
  simp only[eff] at J ⊢;split at J
  ·exact J
  ·exact J
  ·rename_i i e n hs;have Y:i∈E.rd:=by
    split at J
    ·rename_i el B _ _ hB;split at J
     ·split at J
      ·cases V:(Nat.beq B.sz 1&&B.nn&&Nat.beq e 0) with
       |false=>rw[V] at J;simp at J
       |true=>rw[V] at J;simp only[zdu,za1] at J;subst J;simp
      ·cases J
     ·cases J
    ·cases J
   simp only[h i (.inl Y)];exact J
  ·cases J
 |indexAddr t x y=>
  simp only[eff] at J ⊢;split at J
  ·exact J
  ·rename_i i e n k ix hs hv;have Y:i∈E.rd:=by
    split at J
    ·rename_i el B _ hB;split at J
     ·cases J
     ·rename_i s _ _;cases V:Nat.beq s B.sz with
      |false=>rw[V] at J;simp at J
      |true=>rw[V] at J;simp only[zdu,za1] at J;subst J;simp
     ·cases J
    ·cases J
   simp only[h i (.inl Y)];exact J
  ·cases J
 |call c=>
  simp only[eff] at J ⊢;split at J
  ·split at J
   ·rename_i args _;exact J
   ·cases J
  ·exact J
 |slice t x lo hi mx=>
  cases mx with
  |some m=>simp[eff] at J
  |none=>
   simp only[eff] at J ⊢;split at J
   ·exact J
   ·rename_i i e n el hs hu;have Y:i∈E.rd:=by
     split at J
     ·rename_i b l r B s _ hB _;split at J
      ·cases J
      ·have J:=bG J;simp only[za1] at J;subst J;simp
     ·cases J
    simp only[h i (.inl Y)];exact J
   ·cases J
 |_=>exact J
structure Dl where
 d:Option Nat
 tv:TV
 key:Option Nat
 E:Eff
def dI (d:Option Nat) (v:TV) (tm:Nat->TV):Nat->TV:=λt=>match d with
 |some d=>bif Nat.beq t d then v else tm t
 |none=>tm t
def arz (d:Option Nat) (f:zdT):zdT:=λt=>match d with
 |some d=>bif Nat.beq t d then true else f t
 |none=>f t
theorem dK (v:TV) (tm:Nat->TV):dI none v tm=tm:=rfl
theorem di (d:Nat) (v:TV) (tm:Nat->TV):dI (some d) v tm=λt=>bif Nat.beq t d then v else tm t:=rfl
theorem fD (f:zdT):arz none f=f:=rfl
theorem bZ (d:Nat) (f:zdT):arz (some d) f=λt=>(Nat.beq t d||f t):=by
 funext t;simp only[arz];cases Nat.beq t d<;>rfl
variable {d:Option Nat} {v:TV}
theorem lJ {t:Nat} (h:d≠some t):dI d v tm t=tm t:=by
 cases d with
 |none=>rfl
 |some x=>
  have:Nat.beq t x=false:=by
   cases hh:Nat.beq t x with
   |false=>rfl
   |true=>exact absurd (congrArg some (zab hh).symm) h
  simp[dI,this]
def app (D:Dl) (id:Nat) (A:AS):AS:=
 {A with tm:=dI D.d D.tv A.tm,bl:=VO A.bl id D.E,og:=arz (D.key.bind λ_=>D.d) A.og,ok:=arz (D.d.bind λ_=>D.key) A.ok}
def Src (P:Program) (Γ:zdR) (ops:zdS) (id:Nat) (o:Oper) (A:AS) (D:Dl):Prop:=
 match o.guard with
 |none=>D.key=none/\D.tv= .v D.E.out/\D.E.need=true/\eff P Γ A.hq A.tm A.bl [] id o.op=some D.E
 |some (j,b)=> ∃t g,(ops.toList[j]?).bind (·.dst)=some t/\D.key=some t/\kO A.tm 9 t b=some g/\eff P Γ A.hq A.tm A.bl (Xw A.tm 9 t b) id o.op=some D.E/\D.E.wr=none/\D.E.nw=none/\dC g D.E.need=true/\D.tv= .opt t b D.E.out
structure Stp (P:Program) (Γ:FuncId->Option Ctr) (ops:Array Oper) (id:Nat) (o:Oper) (A:AS) (D:Dl):Prop where
 d:D.d=o.dst
 fresh:A.bl id=none
 put: ∀d,o.dst=some d->d<A.nt/\A.ok d=false/\D.key≠some d
 src:Src P Γ ops id o A D
variable {A:AS}
theorem Wi:fresh A id=true↔A.bl id=none:=by
 unfold fresh;cases A.bl id<;>simp
variable {ops:zdS} {o:Oper}
theorem VV {A':AS} {f:ga}:
 step P Γ ops id o A=some (true,A',f)↔ ∃D,Stp P Γ ops id o A D/\A'=app D id A/\f=aV id D.E:=by
 constructor
 ·intro h;unfold step at h;cases hg:o.guard with
  |none=>
   rw[hg] at h;simp only[] at h;split at h
   ·rename_i E hE;cases Z:Sy.fresh A id with
    |false=>rw[Z] at h;simp at h
    |true=>
     rw[Z] at h;simp only[zdu] at h;split at h
     ·rename_i A1 hp;simp only[za1,zag] at h;obtain⟨hn,rfl,rfl⟩:=h;refine⟨⟨o.dst, .v E.out,none,E⟩,⟨rfl,Wi.1 Z, ?_,by simp only[Src,hg];exact⟨trivial,trivial,hn,hE⟩⟩, ?_,rfl⟩
      ·intro d V;rw[V] at hp;simp only[Sy.putD] at hp;cases Y:(Nat.blt d A.nt&& !A.ok d) with
       |false=>rw[Y] at hp;simp at hp
       |true=>
        simp only[za2,zap] at Y;exact⟨by have:=Y.1;simpa [zb2] using this,Y.2,by simp⟩
      ·cases V:o.dst with
       |none=>rw[V] at hp;simp[Sy.putD] at hp;subst hp;rfl
       |some d=>
        rw[V] at hp;simp only[Sy.putD] at hp;cases Y:(Nat.blt d A.nt&& !A.ok d) with
        |false=>rw[Y] at hp;simp at hp
        |true=>rw[Y] at hp;simp only[zdu,za1] at hp;subst hp;rfl
     ·cases h
   ·cases h
  |some p=>
   obtain⟨j,b⟩:=p;rw[hg] at h;simp only[] at h;split at h
   ·rename_i t ht;split at h
    ·rename_i g E htr hE;split at h
     ·rename_i hw hnw;cases Z:Sy.fresh A id with
      |false=>rw[Z] at h;simp at h
      |true=>
       rw[Z] at h;simp only[zdu] at h;split at h
       ·rename_i A1 hp;simp only[za1,zag] at h;obtain⟨hn,rfl,rfl⟩:=h;have J:VO A.bl id E=A.bl:=by simp[VO,hw,hnw]
        refine⟨⟨o.dst, .opt t b E.out,some t,E⟩,⟨rfl,Wi.1 Z, ?_,by simp only[Src,hg];exact⟨t,g,ht,rfl,htr,hE,hw,hnw,hn,rfl⟩⟩, ?_,rfl⟩
        ·intro d V;rw[V] at hp;simp only[Sy.putG] at hp;cases Y:(Nat.blt d A.nt&& !A.ok d&& !Nat.beq d t) with
         |false=>rw[Y] at hp;simp at hp
         |true=>
          simp only[za2,zap] at Y;refine⟨by have:=Y.1.1;simpa [zb2] using this,Y.1.2,λe=> ?_⟩;simp only[za1] at e;have:=Y.2;rw[e] at this;simp at this
        ·cases V:o.dst with
         |none=>rw[V] at hp;simp[Sy.putG] at hp;subst hp;simp[app,dK,di,fD,bZ,J]
         |some d=>
          rw[V] at hp;simp only[Sy.putG] at hp;cases Y:(Nat.blt d A.nt&& !A.ok d&& !Nat.beq d t) with
          |false=>rw[Y] at hp;simp at hp
          |true=>rw[Y] at hp;simp at hp;subst hp;simp[app,dK,di,fD,bZ,J,AS.put]
       ·cases h
     ·cases h
    ·cases h
   ·cases h
 ·rintro⟨D,hs,rfl,rfl⟩;have Z:=Wi.2 hs.fresh;have src:=hs.src;unfold Src at src;unfold step;cases hg:o.guard with
  |none=>
   rw[hg] at src;obtain⟨h1,h2,h3,h4⟩:=src;simp only[h4,Z,zdu];cases V:o.dst with
   |none=>
    simp only[Sy.putD];simp[app,dK,di,fD,bZ,hs.d,V,h1,h3]
   |some d=>
    obtain⟨p1,p2,p3⟩:=hs.put d V;have hb:Nat.blt d A.nt=true:=by simpa [zb2] using p1
    simp[Sy.putD,hb,p2,app,dK,di,fD,bZ,hs.d,V,h1,h2,h3,AS.put]
  |some p=>
   obtain⟨j,b⟩:=p;rw[hg] at src;obtain⟨t,g,h1,h2,h3,h4,h5,h6,h7,h8⟩:=src;have J:VO A.bl id D.E=A.bl:=by simp[VO,h5,h6]
   simp only[h1,h3,h4,h5,h6,Z,zdu];cases V:o.dst with
   |none=>
    simp only[Sy.putG];simp[app,dK,di,fD,bZ,hs.d,V,h2,h7,J]
   |some d=>
    obtain⟨p1,p2,p3⟩:=hs.put d V;have hb:Nat.blt d A.nt=true:=by simpa [zb2] using p1
    have hdt:Nat.beq d t=false:=by rw[bS];simp;intro e;exact p3 (by rw[h2,e])
    simp[Sy.putG,hb,p2,hdt,app,dK,di,fD,bZ,hs.d,V,h2,h7,h8,AS.put,J]
def OS (A:AS):Prop:= ∀t u b s,A.tm t= .opt u b s->A.og t=true/\A.ok u=true
theorem jt {A:AS} (J:OS A) {d:Option Nat} (Z: ∀x,d=some x->A.ok x=false) {v:TV}: ∀(k t:Nat) (b:Bool),d≠some t->kO (dI d v A.tm) k t b=kO A.tm k t b
 |0,t,b,_=>rfl
 |k+1,t,b,ht=>by
  have h1:dI d v A.tm t=A.tm t:=lJ ht;simp only[kO,h1];cases hx:A.tm t with
  |opt V Y s=>
   have hk:=(J t V Y s hx).2;have:=jt J Z (v:=v) k V Y (λe=>by have:=Z V e;rw[hk] at this;cases this);cases s with
   |val x=>cases x<;>first|rfl|simp only[this]
   |_=>rfl
  |v s=>
   cases s with
   |val x=>cases x<;>rfl
   |_=>rfl
  |dead=>rfl
theorem ju {A:AS} (J:OS A) {d:Option Nat} (Z: ∀x,d=some x->A.ok x=false) {v:TV}: ∀(k t:Nat) (b:Bool),d≠some t->Xw (dI d v A.tm) k t b=Xw A.tm k t b
 |0,t,b,_=>rfl
 |k+1,t,b,ht=>by
  have h1:dI d v A.tm t=A.tm t:=lJ ht;simp only[Xw,h1];cases hx:A.tm t with
  |opt V Y s=>
   have hk:=(J t V Y s hx).2;have:=ju J Z (v:=v) k V Y (λe=>by have:=Z V e;rw[hk] at this;cases this);simp only[this]
  |_=>rfl
theorem Ai {x:Operand} (h: ∀t,x= .tmp t->d≠some t) (G:List (Nat×Bool)):ev (dI d v tm) G x=ev tm G x:=by
 cases x with
 |tmp t=>
  have J:=h t rfl;have h1:dI d v tm t=tm t:=lJ J;simp only[ev,h1]
 |_=>rfl
variable {i:Nat}
theorem jX (h1:i∉wrI E) (h2:i∉nwI id E):VO bl id E i=bl i:=by
 unfold VO
 have key:(match E.wr with
  |some (i,e,o,cs)=>match bl i with
   |some B=>upd bl i (B.put e o cs)
   |none=>bl
  |none=>bl) i=bl i:=by
  cases Z:E.wr with
  |none=>rfl
  |some p=>
   obtain⟨j,e,o,cs⟩:=p;have V:i≠j:=λe=>h1 (by simp[wrI,Z,e]);simp only[];cases bl j with
   |none=>rfl
   |some B=>exact ak V
 cases Y:E.nw with
 |none=>exact key
 |some N=>
  have J:i≠id:=λe=>h2 (by simp[nwI,Y,e]);exact(ak J).trans key
theorem jw {x y:zdL} (h:jT x y=false) (J:i∈x):i∉y:=by
 intro V;have:jT x y=true:=by
  unfold jT;simp only[zaP];exact⟨i,J,i,V,by simp⟩
 rw[h] at this;cases this
variable {idx idi:Nat} {ox oi:Oper} {Dx Di:Dl}
theorem Stp.over (Z:OS A) (hx:Stp P Γ ops idx ox A Dx)
 (hap1: ∀d,ox.dst=some d->d∉oi.looksAt ops) (hne:idx≠idi)
 (Y: ∀i,(i∈Di.E.rd\/i∈wrI Di.E)->i∉wrI Dx.E/\i∉nwI idx Dx.E):
 (Src P Γ ops idi oi (app Dx idx A) Di↔Src P Γ ops idi oi A Di):=by
 have hd: ∀x,Dx.d=some x->A.ok x=false:=λx e=>(hx.put x (by rw[<-hx.d,e])).2.1
 have hev: ∀x∈oi.op.operands,∀G,ev (dI Dx.d Dx.tv A.tm) G x=ev A.tm G x:=λx hxo G=>Ai (λt e he=>by
  subst e
  exact hap1 t (by rw[<-hx.d,he]) (zbI _ (zcI.2 ⟨.tmp t,by simpa using hxo,rfl⟩))) G
 have hbl: ∀i,(i∈Di.E.rd\/i∈wrI Di.E)->VO A.bl idx Dx.E i=A.bl i:=λi hi=>jX (Y i hi).1 (Y i hi).2;have V: ∀G,eff P Γ (app Dx idx A).hq (app Dx idx A).tm (app Dx idx A).bl G idi oi.op=some Di.E↔eff P Γ A.hq A.tm A.bl G idi oi.op=some Di.E:=by
  intro G;show eff P Γ A.hq (dI Dx.d Dx.tv A.tm) (VO A.bl idx Dx.E) G idi oi.op=some Di.E↔_;rw[Gw hev];exact⟨λh=>wv h λi hi=>(hbl i hi).symm,λh=>wv h λi hi=>hbl i hi⟩
 unfold Src;cases hg:oi.guard with
 |none=>simp only[V]
 |some p=>
  obtain⟨j,b⟩:=p;have J: ∀t,(ops.toList[j]?).bind (·.dst)=some t->Dx.d≠some t:=λt ht he=>by
   refine hap1 t (by rw[<-hx.d,he]) (zb1 _ ?_);rw[hg];simp at ht ⊢;exact ht
  constructor
  ·rintro⟨t,g,h1,h2,h3,h4,h5⟩;refine⟨t,g,h1,h2, ?_, ?_,h5⟩
   ·rw[<-jt Z hd 9 t b (J t h1)];exact h3
   ·have:=(V _).1 h4;rw[show Xw (app Dx idx A).tm 9 t b=Xw A.tm 9 t b from ju Z hd 9 t b (J t h1)] at this;exact this
  ·rintro⟨t,g,h1,h2,h3,h4,h5⟩;refine⟨t,g,h1,h2, ?_, ?_,h5⟩
   ·show kO (dI Dx.d Dx.tv A.tm) 9 t b=_;rw[jt Z hd 9 t b (J t h1)];exact h3
   ·rw[show Xw (app Dx idx A).tm 9 t b=Xw A.tm 9 t b from ju Z hd 9 t b (J t h1)];exact(V _).2 h4
def U (p:Option (Nat×(Option Blk->Option Blk))) (bl:zdP):zdP:=λi=>match p with
 |some (j,F)=>if i=j then F (bl i) else bl i
 |none=>bl i
theorem ww {p q:Option (Nat×(Option Blk->Option Blk))} (h: ∀j F k H,p=some (j,F)->q=some (k,H)->j≠k) (bl:zdP):U p (U q bl)=U q (U p bl):=by
 funext i
 cases p with
 |none=>rfl
 |some a=>
  cases q with
  |none=>rfl
  |some b=>
   obtain⟨j,F⟩:=a;obtain⟨k,H⟩:=b;have J:=h j F k H rfl rfl;simp only[U];by_cases h1:i=j
   ·have h2:i≠k:=λe=>J (h1.symm.trans e);simp[h1,h2,J]
   ·simp[h1]
def wrU (E:Eff):Option (Nat×(Option Blk->Option Blk)):=match E.wr with
 |some (i,e,o,cs)=>some (i,λb=>b.map λB=>B.put e o cs)
 |none=>none
def nwU (id:Nat) (E:Eff):Option (Nat×(Option Blk->Option Blk)):=match E.nw with
 |some B=>some (id,λ_=>some B)
 |none=>none
theorem yf (bl:zdP) (id:Nat) (E:Eff):VO bl id E=U (nwU id E) (U (wrU E) bl):=by
 have key:(match E.wr with
  |some (i,e,o,cs)=>match bl i with
   |some B=>upd bl i (B.put e o cs)
   |none=>bl
  |none=>bl)=U (wrU E) bl:=by
  funext i
  cases Z:E.wr with
  |none=>simp[wrU,Z,U]
  |some p=>
   obtain⟨j,e,o,cs⟩:=p;simp only[wrU,Z,U];by_cases J:i=j
   ·subst J;rw[if_pos rfl];cases V:bl i with
    |none=>simp[V]
    |some B=>simp[az]
   ·rw[if_neg J];cases V:bl j with
    |none=>rfl
    |some B=>exact ak J
 have e1:VO bl id E=match E.nw with
  |some B=>upd (U (wrU E) bl) id B
  |none=>U (wrU E) bl:=by
  rw[<-key];rfl
 rw[e1];cases Y:E.nw with
 |none=>simp only[nwU,Y];rfl
 |some B=>
  simp only[nwU,Y]
  funext i
  simp only[U];by_cases h:i=id
  ·subst h;rw[az];simp
  ·rw[ak h,if_neg h];rfl
variable {j:Nat} {F:Option Blk->Option Blk}
theorem qS (h:wrU E=some (j,F)):j∈wrI E:=by
 unfold wrU at h;cases J:E.wr with
 |none=>simp[J] at h
 |some p=>obtain⟨i,e,o,cs⟩:=p;simp[J] at h;simp[wrI,J,h.1]
theorem nX (h:nwU id E=some (j,F)):j=id:=by
 unfold nwU at h;cases J:E.nw with
 |none=>simp[J] at h
 |some p=>simp[J] at h;exact h.1.symm
theorem AS.ext': ∀(X Y:AS),X.tm=Y.tm->X.bl=Y.bl->X.nx=Y.nx->X.nt=Y.nt->X.wl=Y.wl->X.og=Y.og->X.ok=Y.ok->X.df=Y.df->X.lit=Y.lit->X.hq=Y.hq->X.sd=Y.sd->X=Y
 |⟨_,_,_,_,_,_,_,_,_,_,_⟩,⟨_,_,_,_,_,_,_,_,_,_,_⟩,rfl,rfl,rfl,rfl,rfl,rfl,rfl,rfl,rfl,rfl,rfl=>rfl
theorem Gx (hd: ∀d,Dx.d=some d->Di.d≠some d) (V:idx≠idi)
 (hw: ∀i∈wrI Dx.E,i∉wrI Di.E/\i≠idi) (hw': ∀i∈wrI Di.E,i≠idx):app Di idi (app Dx idx A)=app Dx idx (app Di idi A):=by
 have Z:dI Di.d Di.tv (dI Dx.d Dx.tv A.tm)=dI Dx.d Dx.tv (dI Di.d Di.tv A.tm):=by
  funext t
  cases h1:Dx.d with
  |none=>simp only[dK]
  |some d=>
   cases h2:Di.d with
   |none=>simp only[dK]
   |some e=>
    have V:d≠e:=λh=>hd d h1 (by rw[h2,h]);simp only[di];by_cases h3:t=d
    ·subst h3;have:Nat.beq t e=false:=by rw[bS];simpa using V
     simp[this]
    ·have:Nat.beq t d=false:=by rw[bS];simpa using h3
     simp[this]
 have J: ∀(a b:Option Nat) (f:zdT),arz a (arz b f)=arz b (arz a f):=by
  intro a b f;cases a<;>cases b<;>simp only[fD,bZ]
  funext t
  rw[<-Bool.or_assoc,<-Bool.or_assoc]
  congr 1
  exact Bool.or_comm _ _
 have Y:VO (VO A.bl idx Dx.E) idi Di.E=VO (VO A.bl idi Di.E) idx Dx.E:=by
  simp only[yf];rw[ww (p:=wrU Di.E) (q:=nwU idx Dx.E) (λj F k H h1 h2 e=>hw' j (qS h1) (by rw[e];exact nX h2))];rw[ww (p:=wrU Di.E) (q:=wrU Dx.E) (λj F k H h1 h2 e=>(hw k (qS h2)).1 (by rw[<-e];exact qS h1))];rw[ww (p:=nwU idi Di.E) (q:=nwU idx Dx.E) (λj F k H h1 h2 e=>V (by rw[<-nX h2,<-e];exact nX h1))];rw[ww (p:=nwU idi Di.E) (q:=wrU Dx.E) (λj F k H h1 h2 e=>(hw k (qS h2)).2 (by rw[<-e];exact nX h1))]
 refine AS.ext' _ _ Z Y rfl rfl rfl ?_ ?_ rfl rfl rfl rfl
 ·exact J _ _ _
 ·exact J _ _ _
theorem OS.app (h:OS A) {D:Dl} (hs:Stp P Γ ops id o A D):OS (app D id A):=by
 intro t u b s ht;have V:dI D.d D.tv A.tm t= .opt u b s:=ht;have Y: ∀(d:Option Nat) (f:zdT) (x:Nat),f x=true->arz d f x=true:=by
  intro d f x hx;cases d with
  |none=>exact hx
  |some d=>rw[bZ];simp[hx]
 by_cases Z:D.d=some t
 ·have J:D.tv= .opt u b s:=by
   rw[Z,di] at V;simpa using V
  have src:=hs.src;unfold Src at src;cases hg:o.guard with
  |none=>rw[hg] at src;rw[src.2.1] at J;cases J
  |some p=>
   obtain⟨j,b'⟩:=p;rw[hg] at src;obtain⟨t',g,h1,h2,h3,h4,h5,h6,h7,h8⟩:=src;rw[h8] at J;simp only[TV.opt.injEq] at J;obtain⟨rfl,rfl,rfl⟩:=J;refine⟨?_, ?_⟩
   ·show arz (D.key.bind λ_=>D.d) A.og t=true;rw[h2,Z];simp[bZ]
   ·show arz (D.d.bind λ_=>D.key) A.ok _=true;rw[h2,Z];simp[bZ]
 ·rw[lJ Z] at V;obtain⟨k1,k2⟩:=h t u b s V;exact⟨Y _ _ _ k1,Y _ _ _ k2⟩
theorem Gy (J:eff P Γ hq tm bl G id op=some E) (hi:i∈wrI E):bl i≠none:=by
 have V: ∀{o:Option SV},km o=some E->False:=λh=>by obtain⟨s,_,rfl⟩:=cJ h;simp[wrI] at hi
 have p2: ∀{o:Option (Bool×SV)},pY o=some E->False:=λh=>by obtain⟨b,s,_,rfl⟩:=ia h;simp[wrI] at hi
 cases op with
 |lookup t m k ok=>
  exfalso;simp only[eff] at J;split at J
  ·obtain⟨_,_,_,_,_,Y,_,_⟩:=lI J;simp[wrI,Y] at hi
  ·cases J
 |store t x y=>
  simp only[eff] at J;split at J
  ·rename_i s v hs hv;unfold o9 at J;split at J
   ·rename_i j e o;split at J
    ·rename_i B hB;split at J
     ·split at J
      ·rename_i n hsz;cases Z:(Nat.beq v.cells.length n&&v.cells.all SV.one&&Nat.ble (o+v.cells.length) B.sz) with
       |false=>rw[Z] at J;simp at J
       |true=>
        rw[Z] at J;simp only[zdu,za1] at J;subst J;simp[wrI] at hi;subst hi;rw[hB];simp
      ·cases J
     ·cases J
    ·cases J
   ·cases J
  ·cases J
 |box t x=>
  exfalso;simp only[eff] at J;split at J
  ·cases J
  ·simp only[za1] at J;subst J;simp[wrI] at hi
  ·cases J
 |buildSlice t n parts=>
  exfalso;simp only[eff] at J;split at J
  ·split at J
   ·have J:=bG J;split at J
    ·simp only[za1] at J;subst J;simp[wrI] at hi
    ·cases J
   ·cases J
  ·cases J
 |load t x=>
  exfalso;simp only[eff] at J;split at J
  ·have Y:E.wr=none:=by
    unfold rH at J;split at J
    ·split at J
     ·split at J
      ·cases J
      ·split at J
       ·split at J
        ·simp only[za1] at J;subst J;rfl
        ·cases J
       ·have J:=bG J;simp only[za1] at J;subst J;rfl
       ·cases J
     ·cases J
    ·cases J
   simp[wrI,Y] at hi
  ·cases J
 |convert s d x=>
  exfalso;simp only[eff] at J;split at J
  ·split at J
   ·simp only[za1] at J;subst J;simp[wrI] at hi
   ·cases J
  ·split at J
   ·simp only[za1] at J;subst J;simp[wrI] at hi
   ·cases J
  ·split at J
   ·split at J
    ·split at J
     ·have J:=bG J;simp only[za1] at J;subst J;simp[wrI] at hi
     ·cases J
    ·cases J
   ·cases J
  ·cases J
 |slice t x lo hi' mx=>
  exfalso;cases mx with
  |some m=>simp[eff] at J
  |none=>
   simp only[eff] at J;split at J
   ·split at J
    ·have J:=bG J;simp only[za1] at J;subst J;simp[wrI] at hi
    ·cases J
   ·split at J
    ·split at J
     ·cases J
     ·have J:=bG J;simp only[za1] at J;subst J;simp[wrI] at hi
    ·cases J
   ·cases J
 |indexAddr t x y=>
  exfalso;simp only[eff] at J;split at J
  ·split at J
   ·split at J
    ·simp only[za1] at J;subst J;simp[wrI] at hi
    ·cases J
   ·cases J
  ·split at J
   ·split at J
    ·cases J
    ·have J:=bG J;simp only[za1] at J;subst J;simp[wrI] at hi
    ·cases J
   ·cases J
  ·cases J
 |index t x i=>
  exfalso;simp only[eff] at J;split at J
  ·split at J
   ·split at J
    ·split at J
     ·have J:=bG J;split at J
      ·simp only[za1] at J;subst J;simp[wrI] at hi
      ·cases J
     ·cases J
    ·split at J
     ·simp only[za1] at J;subst J;simp[wrI] at hi
     ·cases J
    ·cases J
   ·cases J
  ·split at J
   ·simp only[za1] at J;subst J;simp[wrI] at hi
   ·cases J
  ·cases J
 |call c=>
  exfalso;simp only[eff] at J;split at J
  ·split at J
   ·unfold ae2 at J;split at J
    ·split at J
     ·exact V J
     ·cases J
    ·split at J
     ·exact V J
     ·cases J
    ·split at J
     ·exact V J
     ·cases J
    ·cases J
   ·cases J
  ·split at J
   ·split at J
    ·exact p2 J
    ·cases J
   ·cases J
 |_=>
  exfalso;simp only[eff] at J
  first
   |exact V J
   |(repeat' (first|(split at J)|(cases J;done)))
    all_goals first
     |exact V J
     |exact p2 J
     |(simp only[za1] at J;subst J;simp[wrI] at hi;done)
theorem kb {A1 A2:AS} {fx fi:ga} (hos:OS A)
 (h1:step P Γ ops idx ox A=some (true,A1,fx)) (h2:step P Γ ops idi oi A1=some (true,A2,fi)) (hap:ox.apart ops oi=true) (hcl:pZ fx fi=false) (hne:idx≠idi):
 ∃A1',step P Γ ops idi oi A=some (true,A1',fi)/\step P Γ ops idx ox A1'=some (true,A2,fx):=by
 obtain⟨Dx,Z,rfl,rfl⟩:=VV.1 h1;obtain⟨Di,si,rfl,rfl⟩:=VV.1 h2;obtain⟨ap1,ap2,ap3⟩:=Oper.apart_spec hap;unfold pZ at hcl;simp only[zbs] at hcl;obtain⟨⟨c1,c2⟩,c3⟩:=hcl;have Y: ∀i,i∈wrI Dx.E\/i∈nwI idx Dx.E->i∉Di.E.rd/\i∉wrI Di.E/\i∉nwI idi Di.E:=λi hi=>by
  have hm:i∈(aV idx Dx.E).2:=by simp only[aV,za8];exact hi
  have a:=jw c1 hm;have b:=jw c2 hm;simp only[aV,za8,not_or] at a b;exact⟨a,b.1,b.2⟩
 have hrx: ∀i∈Dx.E.rd,i∉wrI Di.E/\i∉nwI idi Di.E:=λi hi=>by
  have b:=jw c3 (show i∈(aV idx Dx.E).1 from hi);simp only[aV,za8,not_or] at b;exact b
 have sub1: ∀i,(i∈Di.E.rd\/i∈wrI Di.E)->i∉wrI Dx.E/\i∉nwI idx Dx.E:=λi hi=>
  ⟨λh=>(by rcases hi with hi|hi;exact(Y i (.inl h)).1 hi;exact(Y i (.inl h)).2.1 hi),λh=>(by rcases hi with hi|hi;exact(Y i (.inr h)).1 hi;exact(Y i (.inr h)).2.1 hi)⟩
 have srci:Src P Γ ops idi oi A Di:=(Stp.over hos Z (λd J=>ap1 d J) hne sub1).1 si.src;have keyx: ∀d,oi.dst=some d->Dx.key≠some d:=λd J V=>by
  have src:=Z.src;unfold Src at src;cases hg:ox.guard with
  |none=>rw[hg] at src;rw[src.1] at V;cases V
  |some p=>
   obtain⟨j,b⟩:=p;rw[hg] at src;obtain⟨t,g,k1,k2,_⟩:=src;rw[k2] at V;refine ap3 d J (zb1 _ ?_);rw[hg];simp at k1 ⊢;simp only[za1] at V;rw[<-V];exact k1
 have keyi: ∀d,ox.dst=some d->Di.key≠some d:=λd J V=>by
  have src:=si.src;unfold Src at src;cases hg:oi.guard with
  |none=>rw[hg] at src;rw[src.1] at V;cases V
  |some p=>
   obtain⟨j,b⟩:=p;rw[hg] at src;obtain⟨t,g,k1,k2,_⟩:=src;rw[k2] at V;refine ap1 d J (zb1 _ ?_);rw[hg];simp at k1 ⊢;simp only[za1] at V;rw[<-V];exact k1
 have okof: ∀(d:Option Nat) (f:zdT) (x:Nat),arz d f x=false->f x=false:=by
  intro d f x hx;cases d with
  |none=>exact hx
  |some d=>rw[bZ] at hx;simp at hx;exact hx.2
 have fri:A.bl idi=none:=by
  have:=si.fresh;cases hb:A.bl idi with
  |none=>rfl
  |some B=>
   have tr:=gN Z.fresh (zaA _) Dx.E (β:=λ_=>⟨0,0,0,0,false⟩) (β':=λ_=>⟨0,0,0,0,false⟩) (λ_ _=>rfl);obtain⟨B',h,_⟩:=tr.keep idi B hb;have h':(app Dx idx A).bl idi=some B':=h;rw[h'] at this;cases this
 have sti:Stp P Γ ops idi oi A Di:=⟨si.d,fri,λd J=>by
  obtain⟨p1,p2,p3⟩:=si.put d J
  exact⟨p1,okof _ _ _ p2,p3⟩,srci⟩
 have hne':idi≠idx:=Ne.symm hne;have sub2: ∀i,(i∈Dx.E.rd\/i∈wrI Dx.E)->i∉wrI Di.E/\i∉nwI idi Di.E:=λi hi=>by
  rcases hi with hi|hi
  ·exact hrx i hi
  ·exact(Y i (.inl hi)).2
 have srcx:Src P Γ ops idx ox (app Di idi A) Dx:=(Stp.over hos sti (λd J=>ap3 d J) hne' sub2).2 Z.src;have wdom: ∀(o:Oper) (id:Nat) (D:Dl),Src P Γ ops id o A D-> ∀i∈wrI D.E,A.bl i≠none:=λo id D src i hi=>by
  unfold Src at src;cases hg:o.guard with
  |none=>
   rw[hg] at src;exact Gy src.2.2.2 hi
  |some p=>
   obtain⟨j,b⟩:=p;rw[hg] at src;obtain⟨t,g,k1,k2,k3,k4,k5,_⟩:=src;simp[wrI,k5] at hi
 have w1: ∀i∈wrI Dx.E,i≠idi:=λi hi e=>wdom ox idx Dx Z.src i hi (by rw[e];exact fri);have w2: ∀i∈wrI Di.E,i≠idx:=λi hi e=>wdom oi idi Di srci i hi (by rw[e];exact Z.fresh);have stx:Stp P Γ ops idx ox (app Di idi A) Dx:=by
  refine⟨Z.d, ?_,λd J=> ?_,srcx⟩
  ·show VO A.bl idi Di.E idx=none
   rw[jX (λh=>w2 idx h rfl) (λh=>by
    unfold nwI at h;split at h
    ·simp at h;exact hne h
    ·cases h)]
   exact Z.fresh
  ·obtain⟨p1,p2,p3⟩:=Z.put d J;refine⟨p1, ?_,p3⟩;show arz (Di.d.bind λ_=>Di.key) A.ok d=false;cases h3:Di.d with
   |none=>exact p2
   |some e=>
    cases h4:Di.key with
    |none=>exact p2
    |some k=>
     have hdk:d≠k:=λe=>keyi d J (by rw[h4,e]);simp only[zcG,bZ,bS,p2];simp[hdk]
 refine⟨app Di idi A,VV.2 ⟨Di,sti,rfl,rfl⟩,VV.2 ⟨Dx,stx, ?_,rfl⟩⟩;exact Gx (λd J V=>ap2 d (by rw[<-Z.d,J]) (by rw[<-si.d,V])) hne (λi hi=>⟨(Y i (.inl hi)).2.1,w1 i hi⟩) w2
end
section
variable {P:Program} {W0:Base}
def StepAt (P:Program) (Γ:zdR) (ops:zdS) (base i:Nat) (A A':AS) (f:ga):Prop:=
 ∃o,ops.toList[i]? =some o/\step P Γ ops (base+i) o A=some (true,A',f)
def Steps (P:Program) (Γ:zdR) (ops:zdS) (base:Nat) (F:Nat->ga):List Nat->AS->zdV
 | [],A,A'=>A=A'
 |i::r,A,A'=> ∃A1,StepAt P Γ ops base i A A1 (F i)/\Steps P Γ ops base F r A1 A'
variable {b:Bool}
theorem Xg {K:Prop}:af b K↔b=true/\K:=by cases b<;>simp[af]
theorem acQ {Γ:zdR} {ops:zdS} {base:Nat} {K:AS->List ga->Prop}: ∀(J:List Oper) (i:Nat) (A:AS) (tr:List ga),(∀j,J[j]? =ops.toList[i+j]?)->
 rK P Γ ops base J i A tr K-> ∃(A':AS) (V:List ga),V.length=J.length/\K A' (tr.reverse++V)/\Steps P Γ ops base (λx=>V.getD (x - i) ([], [])) (List.range' i J.length) A A'
 | [],i,A,tr,_,h=>⟨A, [],rfl,by simpa [rK] using h,rfl⟩
 |o::J,i,A,tr,hr,h=>by
  simp only[rK] at h;split at h
  ·rename_i b Z f hs;obtain⟨hb,h⟩:=Xg.1 h;subst hb;obtain⟨A',V,h1,h2,h3⟩:=acQ J (i+1) Z (f::tr) (λj=>by have:=hr (j+1);simpa [zbr,zb3 1 j] using this) h;refine⟨A',f::V,by simp[h1],by simpa using h2, ?_⟩;rw[za4,List.range'_succ];refine⟨Z,⟨o,by have:=hr 0;simpa using this.symm,by simpa using hs⟩, ?_⟩;have key: ∀(l:zdL) (A A':AS),(∀x∈l,i+1<=x)->Steps P Γ ops base (λx=>V.getD (x - (i+1)) ([], [])) l A A'->Steps P Γ ops base (λx=>(f::V).getD (x - i) ([], [])) l A A':=by
    intro l
    induction l with
    |nil=>intro A A' _ h;exact h
    |cons y l ih=>
     intro A A' hl h;obtain⟨A2,⟨o2,k1,k2⟩,k3⟩:=h;have hy:=hl y (by simp);refine⟨A2,⟨o2,k1, ?_⟩,ih _ _ (λx Y=>hl x (zan _ Y)) k3⟩;rw[k2];have:y - i=(y - (i+1))+1:=by omega
     simp[this]
   exact key _ _ _ (λx Y=>by simp[List.mem_range'] at Y;omega) h3
  ·exact h.elim
variable {Γ:zdR} {ops:zdS} {base:Nat} {A A':AS} {f:ga}
theorem StepAt.os {i:Nat} (h:StepAt P Γ ops base i A A' f) (J:OS A):OS A':=by
 obtain⟨o,_,V⟩:=h;obtain⟨D,st,rfl,_⟩:=VV.1 V;exact J.app st
def B9 (ops:zdS) (F:Nat->ga) (x i:Nat):Prop:=x≠i/\ ∃ox oi,ops.toList[x]? =some ox/\ops.toList[i]? =some oi/\ox.apart ops oi=true/\pZ (F x) (F i)=false
theorem Steps.bubble {Γ:zdR} {ops:zdS} {base:Nat} {F:Nat->ga} {i:Nat} {v:zdL} {A':AS}: ∀(u:zdL) (A:AS),OS A->(∀x∈u,B9 ops F x i)->
 Steps P Γ ops base F (u++i::v) A A'->Steps P Γ ops base F (i::(u++v)) A A'
 | [],A,_,_,h=>h
 |x::u,A,J,hf,h=>by
  obtain⟨A1,sx,hr⟩:=h;obtain⟨A2,si,hr2⟩:=Steps.bubble u A1 (sx.os J) (λy hy=>hf y (zan _ hy)) hr;obtain⟨hne,ox,oi,h1,h2,Y,Z⟩:=hf x (by simp);obtain⟨ox',k1,k2⟩:=sx;obtain⟨oi',k3,k4⟩:=si;rw[h1] at k1;obtain rfl:ox=ox':=by simpa using k1
  rw[h2] at k3;obtain rfl:oi=oi':=by simpa using k3
  obtain⟨V,c1,c2⟩:=kb J k2 k4 Y Z (by omega);exact⟨V,⟨oi,h2,c1⟩,A2,⟨ox,h1,c2⟩,hr2⟩
def jY (ops:zdS) (listed:Array Bool):Prop:= ∀i,listed.getD i false=true-> ∀o,ops.toList[i]? =some o-> ∀e∈o.after.toList,Region.binds .any e=true->listed.getD e.on false=true
theorem nY (m x:Nat):Ab m x=m.testBit x:=by
 unfold Ab;rw[bS,Nat.testBit_eq_decide_div_mod_eq];show decide ((m>>>x)&&&1=1)=_;rw[Nat.and_one_is_mod,Nat.shiftRight_eq_div_pow]
theorem r8 {f:Nat->Nat} {x:Nat}: ∀{l:List Edge},Ab (rJ f l) x=true-> ∃e∈l,Region.binds .any e=true/\(e.on=x\/Ab (f e.on) x=true)
 | [],h=>by simp[nY,rJ] at h
 |e::r,h=>by
  rw[nY,show rJ f (e::r)=(bif Region.binds .any e then(1<<<e.on|||f e.on) else 0)|||rJ f r from rfl,Nat.testBit_or,zav] at h;rcases h with h|h
  ·cases J:Region.binds .any e with
   |false=>rw[J] at h;simp at h
   |true=>
    rw[J,zdu,Nat.testBit_or,zav] at h;refine⟨e,by simp,J, ?_⟩;rcases h with h|h
    ·rw[Nat.one_shiftLeft,Nat.testBit_two_pow] at h;exact .inl (zdx h)
    ·exact .inr (by rw[nY];exact h)
  ·rw[<-nY] at h;obtain⟨V,h1,h2⟩:=r8 h;exact⟨V,zan _ h1,h2⟩
theorem Yu {ops:zdS} {listed:Array Bool} (hc:jY ops listed): ∀(r:List Oper) (i:Nat) (V:zdL),V.length=i->(∀j o,r[j]? =some o->ops.toList[i+j]? =some o)->
 (∀j,j<i-> ∀x,(∀o,ops.toList[j]? =some o-> ∀e∈o.after.toList,Region.binds .any e=true->listed.getD e.on false=true)->Ab (V.getD (i - 1 - j) 0) x=true->listed.getD x false=true)->
 (xZ r i V).length=i+r.length/\ ∀j,j<i+r.length-> ∀x,(∀o,ops.toList[j]? =some o-> ∀e∈o.after.toList,Region.binds .any e=true->listed.getD e.on false=true)->Ab ((xZ r i V).getD (i+r.length - 1 - j) 0) x=true->listed.getD x false=true
 | [],i,V,hl,_,h=>⟨hl,h⟩
 |o::r,i,V,hl,ho,h=>by
  have:=Yu hc r (i+1) (rJ (λj=>bif Nat.blt j i then V.getD (i - 1 - j) 0 else 0) o.after.toList::V) (by simp[hl]) (λj o' hj=>by
   have:=ho (j+1) o' (by simpa using hj);rwa[show i+(j+1)=i+1+j by omega] at this) (λj hj x hx hb=>by
   by_cases hji:j=i
   ·subst hji;rw[show j+1 - 1 - j=0 by omega] at hb;obtain⟨e,he,hbn,J⟩:=r8 (by simpa using hb);have Z:=hx o (ho 0 o (by simp)) e he hbn;rcases J with rfl|J
    ·exact Z
    ·cases Y:Nat.blt e.on j with
     |false=>rw[Y] at J;simp[nY] at J
     |true=>
      rw[Y] at J;exact h e.on (by rw[aB] at Y;exact zdx Y) x (λo' ho' e' he' hb'=>hc e.on Z o' ho' e' he' hb') J
   ·refine h j (by omega) x hx ?_;rw[show i+1 - 1 - j=(i - 1 - j)+1 by omega] at hb
    simpa using hb)
  rw[xZ,za4,show i+(r.length+1)=i+1+r.length by omega];exact this
theorem mz {listed:Array Bool} (Y:jY ops listed) (k i x:Nat) (V:k=ops.size) (hi: ∀o,ops.toList[i]? =some o-> ∀e∈o.after.toList,Region.binds .any e=true->listed.getD e.on false=true)
 (h:bK ops.toList k i x=true):listed.getD x false=true:=by
 unfold bK at h;rw[za2,aB,zdw] at h;have:=(Yu Y ops.toList 0 [] rfl (λj o J=>by simpa using J) (λj J=>by omega)).2 i (by rw[V] at h;simpa using h.1) x hi;rw[za7,show ops.toList.length=k by rw[V];simp] at this;exact this h.2
variable {β:zdM} {a:Act}
theorem FR.toOS (h:FR β A a):OS A:=h.os
variable {Q:zdZ}
theorem yg (hΓ:GamOK P W0 Γ) {F:Nat->ga} 
 (hfree: ∀i x,i<ops.size->x<i->bK ops.toList ops.toList.length i x=true\/B9 ops F x i)
 (hback: ∀i o,ops.toList[i]? =some o-> ∀e∈o.after.toList,Region.binds .any e=true->e.on<i) {W:zdL} (hW: ∀i,∀j∈(F i).2,j∈W) {A0:AS} {β0:zdM} (hbase:base=A0.nx)
 (hQ: ∀a w β,FR β A' a->BC W0 A'.bl β w->Tr A0.bl A0.nx W β0 A'.bl β->A'.nx=A0.nx->A'.wl=A0.wl->A'.nt=A0.nt->Q .normal a w):
 ∀(V:Nat) (listed:Array Bool) (rem:zdL) (A:AS) (a:Act) (w:World) (β:zdM),listed.size=ops.size->rem.length<=V->rem.Pairwise (· < ·)->(∀x,x∈rem↔x<ops.size/\listed.getD x true=false)->jY ops listed->
  Steps P Γ ops base F rem A A'->FR β A a->BC W0 A.bl β w->Tr A0.bl A0.nx W β0 A.bl β->A.nx=A0.nx->A.wl=A0.wl->A.nt=A0.nt->wpAny P .any ops Q V listed a w:=by
 intro V
 induction V with
 |zero=>
  intro listed rem A a w β hsz hlen hpw J hcl hst hfr hbc htr h1 h2 h3;have hnil:rem= []:=zcJ.1 (by omega);subst hnil;obtain rfl:A=A':=hst;refine⟨?_,hQ a w β hfr hbc htr h1 h2 h3⟩;apply zdh.2;intro i hi;obtain⟨hun,o,ho,_⟩:=mem_ready.1 hi;have hlt:i<ops.size:=(zaq.1 ho).1;exact absurd ((J i).2 ⟨hlt,hun⟩) (by simp)
 |succ V ih=>
  intro listed rem A a w β hsz hlen hpw J hcl hst hfr hbc htr h1 h2 h3;refine⟨λhr=> ?_,λi hi=> ?_⟩
  ·
   cases rem with
   |nil=>
    obtain rfl:A=A':=hst;exact hQ a w β hfr hbc htr h1 h2 h3
   |cons i r=>
    exfalso;have him:=(J i).1 (by simp);have ho: ∃o,ops[i]? =some o:=⟨ops[i],by simp[him.1]⟩;obtain⟨o,ho⟩:=ho;have:i∈Region.ready .any ops listed:=by
     refine mem_ready.2 ⟨him.2,o,ho,λe he hb=> ?_⟩;have hlt:=hback i o (by simpa using ho) e (by simpa using he) hb;cases hl:listed.getD e.on false with
     |true=>rfl
     |false=>
      have hes:e.on<listed.size:=by omega
      have hun:listed.getD e.on true=false:=by
       rw[<-hl];simp[Array.getD,hes]
      have hmem:=(J e.on).2 ⟨by omega,hun⟩;simp only[zai] at hmem;rcases hmem with h|h
      ·omega
      ·have:=zdi hpw h;omega
    rw[hr] at this;cases this
  ·obtain⟨hun,o,ho,Z⟩:=mem_ready.1 hi;have hlt:i<ops.size:=(zaq.1 ho).1;have hol:ops.toList[i]? =some o:=by simpa using ho
   have him:i∈rem:=(J i).2 ⟨hlt,hun⟩;obtain⟨u,v,rfl⟩:=zch him;have hpu: ∀x∈u,x<i:=λx hx=>(zbJ.1 hpw).2.2 x hx i (by simp);have hiu:i∉u:=λh=>by have:=hpu i h;omega
   have hiv:i∉v:=λh=>by
    have:=(zbJ.1 hpw).2.1;have:=zdi this h;omega
   have hf2: ∀x∈u,B9 ops F x i:=by
    intro x hx;rcases hfree i x hlt (hpu x hx) with hb|hf
    ·exfalso
     have hl:=mz hcl _ i x (by simp) (λo' Y e he hb'=>by
      rw[hol] at Y;obtain rfl:o=o':=by simpa using Y
      exact Z e (by simpa using he) hb') hb
     have hxm:=(J x).1 (by simp[hx]);have hxs:x<listed.size:=by omega
     have:=hxm.2;simp[Array.getD,hxs] at this hl;rw[this] at hl;cases hl
    ·exact hf
   obtain⟨A1,⟨o',k1,k2⟩,hst2⟩:=Steps.bubble u A hfr.toOS hf2 hst;rw[hol] at k1;obtain rfl:o=o':=by simpa using k1
   have k:=mO hΓ hfr hbc (by omega) k2 (Q:=Q) (K:=wpAny P .any ops Q V (listed.setIfInBounds i true)) (λa' w' β' r1 r2 r3 r4 r5 r6=>by
    refine ih (listed.setIfInBounds i true) (u++v) A1 a' w' β' (by simp[hsz]) (by simp at hlen ⊢;omega) ?_ ?_ ?_ hst2 r1 r2 ?_ (r4.trans h1) (r5.trans h2) (r6.trans h3)
    ·have hp:=zbJ.1 hpw;refine zbJ.2 ⟨hp.1,(zcK.1 hp.2.1).2,λx hx y hy=>hp.2.2 x hx y (zan _ hy)⟩
    ·intro x;have hm:=J x;simp only[za8,zai] at hm ⊢;by_cases hxi:x=i
     ·subst hxi;constructor
      ·rintro(h|h)
       ·exact absurd h hiu
       ·exact absurd h hiv
      ·rintro⟨_,h⟩;have hxs:x<listed.size:=by omega
       simp[Array.getD,hxs] at h
     ·rw[getD_set_ne true (Ne.symm hxi),<-hm];constructor
      ·rintro(h|h)
       ·exact .inl h
       ·exact .inr (.inr h)
      ·rintro(h|h|h)
       ·exact .inl h
       ·exact absurd h hxi
       ·exact .inr h
    ·intro j hj o' Y e he hb;by_cases hji:j=i
     ·subst hji;rw[hol] at Y;obtain rfl:o=o':=by simpa using Y
      exact getD_set_true (Z e (by simpa using he) hb)
     ·rw[getD_set_ne false (Ne.symm hji)] at hj;exact getD_set_true (hcl j hj o' Y e he hb)
    ·exact htr.trans r3 (by omega) (λ_ h=>h) (λj hj=>hW i j hj))
   unfold wpOp;simp only[ho];by_cases hw:Region.wanted o (yielded ops a.tmps)=true
   ·rw[if_pos hw] at k ⊢;exact .inl k
   ·rw[if_neg hw] at k ⊢;exact k
theorem DK {tr:List ga} (h:free ops ops.toList tr=true) (Y:tr.length=ops.size):
 (∀i x,i<ops.size->x<i->bK ops.toList ops.toList.length i x=true\/B9 ops (λx=>tr.getD x ([], [])) x i)/\
 (∀i o,ops.toList[i]? =some o-> ∀e∈o.after.toList,Region.binds .any e=true->e.on<i):=by
 unfold free at h;simp only[zaf,zaC,za2] at h;refine⟨λi x hi hx=> ?_,λi o V e he hb=> ?_⟩
 ·have h1:=(h i (by simpa using hi)).2 x hx;simp only[zav] at h1;rcases h1 with h1|h1
  ·exact .inl h1
  ·right;split at h1
   ·rename_i oi ox fi fx Z a2 a3 a4;simp only[za2,zap] at h1;refine⟨by omega,ox,oi,a2,Z,h1.1, ?_⟩;simp only[zdj,a3,a4,Option.getD_some];exact h1.2
   ·cases h1
 ·have hi:i<ops.toList.length:=by
   rcases zah i ops.toList.length with J|J
   ·exact J
   ·rw[zad J] at V;cases V
  have h1:=(h i hi).1;rw[V] at h1;simp only[zb0,Option.getD_some,zaf,zav,zap] at h1;rcases h1 e he with h2|h2
  ·rw[hb] at h2;cases h2
  ·simpa [zb2] using h2
theorem nB {d:Option Tmp} {v:TV} (h:putD A d v=some A'):A'.sd=A.sd:=by
 cases d with
 |none=>simp only[putD,za1] at h;rw[<-h]
 |some d=>
  simp only[putD] at h;cases J:(Nat.blt d A.nt&& !A.ok d) with
  |false=>rw[J] at h;cases h
  |true=>rw[J] at h;simp only[zdu,za1] at h;rw[<-h];rfl
theorem ae3 {id:Nat} {o:Oper} (h:step P Γ ops id o A=some (b,A',f)):A'.sd=A.sd:=by
 unfold step at h;split at h
 ·split at h
  ·cases J:fresh A id with
   |false=>rw[J] at h;cases h
   |true=>
    rw[J] at h;simp only[zdu] at h;split at h
    ·rename_i hp;simp only[za1,zag] at h;rw[<-h.2.1];have:=nB hp;exact this
    ·cases h
  ·cases h
 ·split at h
  ·split at h
   ·split at h
    ·cases J:fresh A id with
     |false=>rw[J] at h;cases h
     |true=>
      rw[J] at h;simp only[zdu] at h;split at h
      ·rename_i d hp;simp only[za1,zag] at h;rw[<-h.2.1];unfold putG at hp;split at hp
       ·simp only[za1] at hp;rw[<-hp]
       ·rename_i V _ _ _;revert hp;generalize (Nat.blt _ A.nt&& !A.ok _&& !Nat.beq _ _)=c;cases c with
        |false=>intro hp;cases hp
        |true=>intro hp;simp only[zdu,za1] at hp;rw[<-hp];rfl
      ·cases h
    ·cases h
   ·cases h
  ·cases h
theorem Steps.sd {Γ:zdR} {ops:zdS} {base:Nat} {F:Nat->ga} {A':AS}: ∀(l:zdL) (A:AS),Steps P Γ ops base F l A A'->A'.sd=A.sd
 | [],A,h=>by obtain rfl:A=A':=h;rfl
 |i::r,A,h=>by
  obtain⟨J,⟨o,_,h1⟩,h2⟩:=h;exact(Steps.sd r J h2).trans (ae3 h1)
theorem Steps.none {Γ:zdR} {ops:zdS} {base:Nat} {F:Nat->ga} {A':AS} {n:Nat}: ∀(l:zdL) (A:AS),(∀i∈l,i<n)->Steps P Γ ops base F l A A'->(∀j,base+n<=j->A.bl j=none)-> ∀j,base+n<=j->A'.bl j=none
 | [],A,_,h,h0=>by obtain rfl:A=A':=h;exact h0
 |i::r,A,Z,h,h0=>by
  obtain⟨A1,⟨o,_,hs⟩,hr⟩:=h;refine Steps.none r A1 (λx hx=>Z x (zan _ hx)) hr (λj hj=> ?_);obtain⟨D,st,rfl,_⟩:=VV.1 hs;have hi:=Z i (by simp);have J:=h0 j hj;have tr:=gN (nx:=base+i) st.fresh (za0 _) D.E (β:=λ_=>⟨0,0,0,0,false⟩) (β':=λ_=>⟨0,0,0,0,false⟩) (λ_ _=>rfl);show VO A.bl (base+i) D.E j=Option.none;rw[yf];have hne:j≠base+i:=by omega
  have h1:U (wrU D.E) A.bl j=Option.none:=by
   unfold U;cases V:wrU D.E with
   |none=>exact J
   |some p=>
    obtain⟨k,G⟩:=p;simp only[];split
    ·unfold wrU at V;cases Y:D.E.wr with
     |none=>simp[Y] at V
     |some q=>obtain⟨a,b,c,d⟩:=q;simp[Y] at V;rw[<-V.2,J];rfl
    ·exact J
  unfold U at h1 ⊢;cases V:nwU (base+i) D.E with
  |none=>exact h1
  |some p=>
   obtain⟨k,G⟩:=p;have:=nX V;simp only[];rw[if_neg (by omega)];exact h1
theorem Aj (hΓ:GamOK P W0 Γ) (hmx:P.follows .mixedOrders=true) {rid:Nat} {w:World} {K:AS->List ga->Prop}
 (h:rK P Γ ops A.nx ops.toList 0 A [] λA' tr=>af (free ops ops.toList tr) (K A' tr)) (hfr:FR β A a) (hbc:BC W0 A.bl β w) 
 (hQ: ∀A' tr Z w' β',K A' tr->FR β' A' Z->BC W0 A'.bl β' w'->Tr A.bl A.nx (alD tr) β A'.bl β'->A'.nx=A.nx->A'.wl=A.wl->A'.nt=A.nt->A'.sd=A.sd->((∀j,A.nx+ops.size<=j->A.bl j=none)-> ∀j,A.nx+ops.size<=j->A'.bl j=none)->Q .normal Z w'):(Code.region rid ops true).wp P Q a w:=by
 obtain⟨A',J,h1,h2,h3⟩:=acQ ops.toList 0 A [] (λj=>by simp) h;simp only[List.reverse_nil,zaM] at h2;obtain⟨hf,hK⟩:=Xg.1 h2;obtain⟨f1,f2⟩:=DK hf (by simpa using h1);refine wp_region_any hmx ?_;have hbd:Below w.heap.size w {w with drawn:=w.drawn+1}:=(zdG _ _).drew;have V: ∀(l:List ga) (i:Nat),∀j∈(l.getD i ([], [])).2,j∈alD l:=by
  intro l
  induction l with
  |nil=>intro i j Y;simp at Y
  |cons f l ih=>
   intro i j Y;cases i with
   |zero=>simp at Y;simp[alD,Y]
   |succ i=>simp only[alD,za8];right;exact ih i j (by simpa using Y)
 refine yg hΓ (base:=A.nx) (F:=λx=>J.getD x ([], [])) (A':=A') f1 f2 (W:=alD J) (V J) (A0:=A) (β0:=β) rfl
  (λZ w' β' r1 r2 r3 r4 r5 r6=>hQ A' J Z w' β' hK r1 r2 r3 r4 r5 r6 (Steps.sd _ A h3) (Steps.none _ A (λi hi=>by simp[List.mem_range'_1] at hi;exact hi) h3)) ops.size _ (List.range' 0 ops.toList.length) A a _ β (by simp) (by simp) ?_ ?_ ?_ ?_ hfr (hbc.step hbd) (Tr.refl _ _ _ _) rfl rfl rfl
 ·exact List.pairwise_lt_range'
 ·intro x;simp only[List.mem_range'_1];simp[Array.getD]
 ·intro i hi;exfalso;simp[Array.getD] at hi
 ·simpa using h3
end
end Go.Sy
