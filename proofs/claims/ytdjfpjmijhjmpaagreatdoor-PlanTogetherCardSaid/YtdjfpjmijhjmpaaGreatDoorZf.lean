import Derived.Test.YtdjfpjmijhjmpaaGreatDoorZe
import Derived.Recover
import Derived.Tactics
import Derived.Tactics2
import Derived.Laws.Pointers
import Derived.RowKitTokens
import Derived.LaidEql
import Derived.Stop.Asserts
set_option linter.unusedVariables false
set_option linter.unusedSimpArgs false
set_option maxHeartbeats 1000000
set_option maxRecDepth 100000
noncomputable section
namespace Go.Sy
open Go Go.RowKit
def azt (ta te tt tb:TypeId) (g isF:Nat) (p:String) (Z:Code):Code:=
 ((Code.region 0
   #[{dst:=some 6,op:=Op.call {callee:=Callee.builtin Builtin.recover,args:= #[],argTypes:= #[]},type:=ta,pos:=p,after:= #[],guard:=none},
    {dst:=some 7,op:=Op.typeAssert (Operand.tmp 6) ta te true,type:=tt,pos:=p,after:= #[{on:=0,ground:=Ground.data}],guard:=none},
    {dst:=some 5,op:=Op.move (Operand.tmp 7),type:=tt,pos:=p,after:= #[{on:=1,ground:=Ground.data}],guard:=none},
    {dst:=some 8,op:=Op.extract (Operand.tmp 5) 0,type:=te,pos:=p,after:= #[{on:=2,ground:=Ground.data}],guard:=none},
    {dst:=some 9,op:=Op.extract (Operand.tmp 5) 1,type:=tb,pos:=p,after:= #[{on:=2,ground:=Ground.data},{on:=5,ground:=Ground.gcOnly Departure.lateStores}],guard:=none},
    {dst:=some 2,op:=Op.assign (Operand.tmp 8),type:=te,pos:=p,
     after:= #[{on:=3,ground:=Ground.data},{on:=0,ground:=Ground.chain},{on:=0,ground:=Ground.phase},{on:=1,ground:=Ground.phase},{on:=2,ground:=Ground.phase},{on:=3,ground:=Ground.phase},{on:=4,ground:=Ground.textOnly Departure.lateStores}],guard:=none},
    {dst:=some 3,op:=Op.assign (Operand.tmp 9),type:=tb,pos:=p,
     after:= #[{on:=4,ground:=Ground.data},{on:=5,ground:=Ground.chain},{on:=0,ground:=Ground.phase},{on:=1,ground:=Ground.phase},{on:=2,ground:=Ground.phase},{on:=3,ground:=Ground.phase},{on:=4,ground:=Ground.phase},{on:=5,ground:=Ground.phase}],guard:=none}]
   false).seq
 ((Code.region 1
   #[{dst:=some 10,op:=Op.move (Operand.tmp 3),type:=tb,pos:=p,after:= #[],guard:=none},
    {dst:=some 11,op:=Op.move (Operand.tmp 10),type:=tb,pos:=p,after:= #[{on:=0,ground:=Ground.data}],guard:=none},
    {dst:=some 12,op:=Op.move (Operand.tmp 2),type:=te,pos:=p,after:= #[{on:=1,ground:=Ground.guard}],guard:=some (1,true)},
    {dst:=some 13,op:=Op.load te (Operand.global g),type:=te,pos:=p,after:= #[{on:=1,ground:=Ground.guard}],guard:=some (1,true)},
    {dst:=some 14,op:=Op.call {callee:=Callee.value (Operand.func isF),args:= #[Operand.tmp 12,Operand.tmp 13],argTypes:= #[te,te]},type:=tb,pos:=p,
     after:= #[{on:=2,ground:=Ground.data},{on:=3,ground:=Ground.data},{on:=1,ground:=Ground.chain},{on:=1,ground:=Ground.guard}],guard:=some (1,true)},
    {dst:=some 15,op:=Op.pick (Operand.tmp 11) (Operand.tmp 14) (Operand.const (Value.bool false)),type:=tb,pos:=p,after:= #[{on:=1,ground:=Ground.data},{on:=4,ground:=Ground.data}],guard:=none}]
   false).seq
 (Code.cond (Operand.tmp 15) Z Code.skip)))
def aDq (T tu tn:TypeId) (c:Int) (q r:String):Code:=
 (Code.region 2 #[{dst:=some 4,op:=Op.alloc T,type:=tu,pos:=q,after:= #[],guard:=none}] false).seq
   (Code.region 3
    #[{dst:=some 16,op:=Op.load T (Operand.tmp 4),type:=T,pos:=r,after:= #[],guard:=none},
     {dst:=none,op:=Op.store T (Operand.tmp 0) (Operand.tmp 16),type:=tu,pos:=r,after:= #[{on:=0,ground:=Ground.data},{on:=0,ground:=Ground.phase}],guard:=none},
     {dst:=none,op:=Op.store tn (Operand.tmp 1) (Operand.const (Value.int IntKind.i64 c)),type:=tu,pos:=r,after:= #[{on:=1,ground:=Ground.chain},{on:=0,ground:=Ground.phase},{on:=1,ground:=Ground.phase}],guard:=none}]
    false)
def aB6 (v:Value) (T tu tn:TypeId) (c:Int) (q r:String):Code:=
 (Code.region 2 #[{dst:=some 4,op:=Op.assign (Operand.const v),type:=T,pos:=q,after:= #[],guard:=none}] false).seq
   (Code.region 3
    #[{dst:=some 16,op:=Op.move (Operand.tmp 4),type:=T,pos:=r,after:= #[],guard:=none},
     {dst:=none,op:=Op.store T (Operand.tmp 0) (Operand.tmp 16),type:=tu,pos:=r,after:= #[{on:=0,ground:=Ground.data},{on:=0,ground:=Ground.phase}],guard:=none},
     {dst:=none,op:=Op.store tn (Operand.tmp 1) (Operand.const (Value.int IntKind.i64 c)),type:=tu,pos:=r,after:= #[{on:=1,ground:=Ground.chain},{on:=0,ground:=Ground.phase},{on:=1,ground:=Ground.phase}],guard:=none}]
    false)
def ahF (n:Nat):Option Blk->Bool
 |some B=>Nat.beq B.n 1&&(Nat.beq B.sz n&&(match B.kd with
  | .own=>true
  |_=>false))
 |none=>false
def ai2 (bl:zdL) (i:Nat) (cs:zdJ):Nat×Blk:=(i,match bl i with
 |some B=>B.put 0 0 cs
 |none=>{n:=0,sz:=0,get:=λ_=> [],kd:= .gone})
theorem ado {n:Nat} {o:Option Blk} (h:ahF n o=true): ∃B,o=some B/\B.n=1/\B.sz=n/\B.kd= .own:=by
 cases o with
 |none=>cases h
 |some B=>
  simp only[ahF,za2] at h;obtain⟨h1,h2,h3⟩:=h;exact⟨B,rfl,zab h1,zab h2,by revert h3;cases B.kd<;>simp⟩
def gu (tE:TypeId) (a:Addr) (cs:zdJ) (c:Int):DCtr:=λm bl args=>match args with
 | [.ptr i 0 0, .ptr j 0 0]=>match m with
   |none=>some (true,none, [])
   |some (.iface t (.pointer (some b)))=>some (Nat.beq t tE&&(decide (b=a)&&(!Nat.beq i j&&(ahF cs.length (bl i)&&ahF 1 (bl j)))),none, [ai2 bl j [.val (.int .i64 c)],ai2 bl i cs])
   |_=>none
 |_=>none
structure CompP (P:Program) (tE:TypeId) (a:Addr) (ta te:TypeId) (isF:FuncId):Prop where
 yes: ∀w,(Instr.typeAssert (.iface tE (.pointer (some a))) ta te true).run P w= .ok (.tuple #[.iface tE (.pointer (some a)), .bool true]) w
 no: ∀w,(Instr.typeAssert .nilIface ta te true).run P w= .ok (.tuple #[.nilIface, .bool false]) w
 is: ∀w,Calls P isF #[.iface tE (.pointer (some a)), .iface tE (.pointer (some a))] w λe w'=>e= .returned (.bool true)/\w'=w
 call:Callable P isF
 agg:xW P te=some false
variable {P:Program} {T:TypeId} {cs:zdJ}
theorem aEK {out:SV} (Y: ∀bl,bl 0=some ({n:=1,sz:=cs.length,get:=λ_=>cs,kd:= .own}:Blk)-> ∃E,rH P bl T (.ptr 0 0 0)=some E/\E.need=true/\E.out=out) (hid: ∀s∈cs,s.ids= []) (ho:out.ids= []) (w:World):
 (loadVar T ⟨w.heap.size,0,none⟩).run P (w.alloc (.cells (SV.concs oj cs).toArray T))= .ok (out.conc oj) (w.alloc (.cells (SV.concs oj cs).toArray T)):=by
 have k1:=(sP w oj).alloc (id:=0) rfl (B:={n:=1,sz:=cs.length,get:=λ_=>cs,kd:= .own}) rfl (λ_ _=>rfl) (λe o s _ H i hi=>by
  rw[hid s (zal H)] at hi;cases hi) cs (by simp) (λe o s J H=>by
  have:e=0:=by simp at J;exact J
  subst this
  simpa using H) T
 obtain⟨E,h1,h2,rfl⟩:=Y _ (az _ _ _);obtain⟨ad,N,l2,_⟩:=qe k1 h1 h2;have:ad=⟨w.heap.size,0,none⟩:=by
  have:SV.conc (gp oj 0 ⟨w.heap.size,0,cs.length,1,false⟩) (.ptr 0 0 0)= .pointer (some ⟨w.heap.size,0,none⟩):=by simp[SV.conc,addr,aA]
  rw[this] at N;simpa using N.symm
 rw[<-this,l2,SV.conc_congr E.out (β:=oj) (β':=gp oj 0 ⟨w.heap.size,0,cs.length,1,false⟩) (λi h=>by rw[ho] at h;cases h)]
variable {ops:zdO} {Q:Exit->Act->List Frame->World->Prop} {i:Nat} {rest:zdH} {a:Act} {w w':World} {o:Oper}
theorem ayi {cs:List Frame} {v:Value} (J:ops[i]? =some o) (N:Region.wanted o (yielded ops a.tmps)=true) (H:(execOp a.eval o).run P w= .ok (.value v) w')
 (h:wpOpsS P ops Q rest (a.put o.dst v) cs w'):wpOpsS P ops Q (i::rest) a cs w:=by
 simp only[wpOpsS,J,N,if_true,H];exact h
theorem azu {cs:List Frame} (J:ops[i]? =some o) (N:Region.wanted o (yielded ops a.tmps)=true) (H:(execOp a.eval o).run P w= .ok .skip w')
 (h:wpOpsS P ops Q rest (a.put o.dst undef) cs w'):wpOpsS P ops Q (i::rest) a cs w:=by
 simp only[wpOpsS,J,N,if_true,H];exact h
variable {ρ:Operand->Value} {d:Option Tmp} {tp:TypeId} {x:Operand} {p:String} {af:Array Edge} {ad:Addr}
theorem aDQ {g:Option (Nat×Bool)} {v:Value} (H:ρ x= .pointer (some ad)) (h:(loadVar T ad).run P w= .ok v w):(execOp ρ ⟨d, .load T x,tp,p,af,g⟩).run P w= .ok (.value v) w:=by
 simp only[execOp,Instr.loadAt,H,Instr.sureAddr,zdE,zdF,zdD,h]
theorem aB7 {y:Operand} {g:Option (Nat×Bool)} {v:Value} (H:ρ x= .pointer (some ad)) (J:ρ y=v) (h:(storeVar T ad v).run P w= .ok () w'):(execOp ρ ⟨d, .store T x y,tp,p,af,g⟩).run P w= .ok .skip w':=by
 simp only[execOp,Instr.storeAt,H,J,Instr.sureAddr,zdE,zdF,zdD,h]
def azS (P:Program) (Z:Code) (zw:World->World) (T tn:TypeId) (out:Value) (c:Int):Prop:=
 ∀{Q:Exit->Act->List Frame->World->Prop} {a:Act} {fs:List Frame} {w J N:World} {p0 p1:Addr},a.eval (.tmp 0)= .pointer (some p0)->a.eval (.tmp 1)= .pointer (some p1)->a.tmps.size=17->(storeVar T p0 out).run P (zw w)= .ok () J->(storeVar tn p1 (.int .i64 c)).run P J= .ok () N->
  (∀H,H.defers=a.defers->Q .normal H fs N)->Code.wpS P Z Q a fs w
theorem n9 (x:Act) (t d:Nat) (v:Value) (J:x.tmps.size=17) (H:d<17):(x.put (some d) v).eval (.tmp t)=(if t=d then v else x.eval (.tmp t)):=cE x d t v (by rw[J];exact H)
variable {tu tn:TypeId} {r:String} {c:Int} {w2 w3:World} {out:Value}
theorem aAh {a a1:Act} {fs:List Frame} {p0 p1:Addr} {e1 e2:Array Edge} 
 (h0:a1.eval (.tmp 0)= .pointer (some p0)) (h1:a1.eval (.tmp 1)= .pointer (some p1)) (h2:a1.eval (.tmp 16)=out)
 (k2:(storeVar T p0 out).run P w= .ok () w2) (J:(storeVar tn p1 (.int .i64 c)).run P w2= .ok () w3) (H:Q .normal a1 fs w3):
 wpOpsS P #[o,{dst:=none,op:=Op.store T (Operand.tmp 0) (Operand.tmp 16),type:=tu,pos:=r,after:=e1,guard:=none},
  {dst:=none,op:=Op.store tn (Operand.tmp 1) (Operand.const (Value.int IntKind.i64 c)),type:=tu,pos:=r,after:=e2,guard:=none}] Q [1,2] a1 fs w:=by
 refine azu (o:=⟨none, .store T (.tmp 0) (.tmp 16),tu,r,e1,none⟩) (i:=1) (rest:= [2]) rfl rfl (aB7 (ad:=p0) (v:=out) h0 h2 k2) ?_;show wpOpsS _ _ _ _ a1 _ _;refine azu (o:=⟨none, .store tn (.tmp 1) (.const (.int .i64 c)),tu,r,e2,none⟩) (i:=2) (rest:= []) rfl rfl (aB7 (ad:=p1) (v:= .int .i64 c) h1 rfl J) ?_;exact H
variable {q:String}
theorem aB8 (hz:xX P T=some cs) (N: ∀w:World,(loadVar T ⟨w.heap.size,0,none⟩).run P (w.alloc (.cells (SV.concs oj cs).toArray T))= .ok out (w.alloc (.cells (SV.concs oj cs).toArray T))):
 azS P (aDq T tu tn c q r) (λw=>w.alloc (.cells (SV.concs oj cs).toArray T)) T tn out c:=by
 intro Q a fs w w2 w3 p0 p1 h0 h1 H k2 m2 hQ;apply wpS_seq;apply wpS_region;refine ayi (o:=⟨some 4, .alloc T,tu,q, #[],none⟩) (i:=0) (rest:= []) rfl rfl (adg rfl hz).1 ?_;show Code.wpS _ _ _ (a.put (some 4) (.pointer (some ⟨w.heap.size,0,none⟩))) _ _;apply wpS_region;have z4:=n9 a 4 4 (.pointer (some ⟨w.heap.size,0,none⟩)) H (by decide);have z0:=n9 a 0 4 (.pointer (some ⟨w.heap.size,0,none⟩)) H (by decide);have z1:=n9 a 1 4 (.pointer (some ⟨w.heap.size,0,none⟩)) H (by decide);have Y:(a.put (some 4) (.pointer (some ⟨w.heap.size,0,none⟩))).tmps.size=17:=by simp[Act.put,H]
 have zd:(a.put (some 4) (.pointer (some ⟨w.heap.size,0,none⟩))).defers=a.defers:=rfl;generalize a.put (some 4) (.pointer (some ⟨w.heap.size,0,none⟩))=J at*
 refine ayi (o:=⟨some 16, .load T (.tmp 4),T,r, #[],none⟩) (i:=0) (rest:= [1,2]) rfl rfl (aDQ (ad:=⟨w.heap.size,0,none⟩) (by rw[z4];rfl) (N w)) ?_;refine aAh (a:=a) (by rw[n9 J 0 16 out Y (by decide)];simp;rw[z0];simp;exact h0) (by rw[n9 J 1 16 out Y (by decide)];simp;rw[z1];simp;exact h1) (by rw[n9 J 16 16 out Y (by decide)];simp) k2 m2 (hQ _ zd)
theorem aAi:azS P (aB6 out T tu tn c q r) (λw=>w) T tn out c:=by
 intro Q a fs w w2 w3 p0 p1 h0 h1 H k2 m2 Y;apply wpS_seq;apply wpS_region;refine ayi (o:=⟨some 4, .assign (.const out),T,q, #[],none⟩) (i:=0) (rest:= []) rfl rfl (w':=w) (v:=out) (by simp[execOp,Act.eval]) ?_;show Code.wpS _ _ _ (a.put (some 4) out) _ _;apply wpS_region;have z4:=n9 a 4 4 out H (by decide);have z0:=n9 a 0 4 out H (by decide);have z1:=n9 a 1 4 out H (by decide);have N:(a.put (some 4) out).tmps.size=17:=by simp[Act.put,H]
 have zd:(a.put (some 4) out).defers=a.defers:=rfl;generalize a.put (some 4) out=J at*
 refine ayi (o:=⟨some 16, .move (.tmp 4),T,r, #[],none⟩) (i:=0) (rest:= [1,2]) rfl rfl (w':=w) (v:=out) (by simp[execOp,z4]) ?_;refine aAh (a:=a) (by rw[n9 J 0 16 out N (by decide)];simp;rw[z0];simp;exact h0) (by rw[n9 J 1 16 out N (by decide)];simp;rw[z1];simp;exact h1) (by rw[n9 J 16 16 out N (by decide)];simp) k2 m2 (Y _ zd)
variable {f isF:FuncId} {fn:Func} {ta te tt tb t:TypeId} {g j:Nat} {Z:Code} {b:Addr} {β:zdI}
theorem aAR (H:CompP P t b ta te isF) (hf:P.funcs[f]? =some fn) (hb:fn.body=some (azt ta te tt tb g isF p Z)) (hn:fn.ntmps=17) (hr:fn.results= #[]):CallsD P f (SV.concs β [.ptr i 0 0, .ptr j 0 0]).toArray .returning w λe u' w'=>e= .returned (.tuple #[])/\u'= .returning/\w'=w:=by
 refine callsD_of_wpS hf hb λc₀ cs' hu=> ?_;unfold azt;apply wpS_seq;apply wpS_region;simp[wpOpsS,go_sem,recoverD,hu,hn,Exit.thenS,H.no,SV.concs,SV.conc];apply wpS_seq;apply wpS_region;simp[wpOpsS,go_sem,Exit.thenS];refine wpS_cond (t:=false) (by simp[Act.eval]) ?_;simp only[zbn,if_false];refine wpS_of_wp (wp_skip ?_);cases c₀
 simp_all [bodyPostS,results]
variable {zw:World->World}
theorem aBv (H:CompP P t b ta te isF) (hf:P.funcs[f]? =some fn) (hb:fn.body=some (azt ta te tt tb g isF p Z)) (hn:fn.ntmps=17) (hr:fn.results= #[]) (hZ:azS P Z zw T tn out c) (hg:w.cell? ⟨g,0,none⟩=some (.iface t (.pointer (some b))))
 (k2:(storeVar T (addr β i 0 0) out).run P (zw w)= .ok () w2) (m2:(storeVar tn (addr β j 0 0) (.int .i64 c)).run P w2= .ok () w3):
 CallsD P f (SV.concs β [.ptr i 0 0, .ptr j 0 0]).toArray (pq (some (.iface t (.pointer (some b))))) w λe u' w'=>e= .returned (.tuple #[])/\u'= .panicking [{v:= .iface t (.pointer (some b)),recovered:=true}]/\w'=w3:=by
 refine callsD_of_wpS hf hb λc₀ cs' hu=> ?_;unfold pq at hu;unfold azt;apply wpS_seq;apply wpS_region;simp[wpOpsS,go_sem,recoverD,hu,hn,Exit.thenS,H.yes,SV.concs,SV.conc,addr];apply wpS_seq;apply wpS_region;have hcl: ∀ar w,(callFunc isF ar).run P w= .ok (.enter isF ar) w:=H.call;simp[wpOpsS,go_sem,Exit.thenS,nQ w H.agg,hg,hcl];refine(H.is w).mono ?_;rintro e w1 ⟨rfl,rfl⟩;dsimp only;refine wpS_cond (t:=true) (by simp[Act.eval]) ?_;simp only[if_true];refine hZ (p0:=addr β i 0 0) (p1:=addr β j 0 0) (by simp[Act.eval,addr]) (by simp[Act.eval,addr]) (by simp) k2 m2 λa' hd=> ?_;have hd:a'.defers= []:=hd;simp[bodyPostS,results,hr,hd]
variable {B:Base} {tE:TypeId}
theorem ay7 {a:Addr} {out:SV} (H:CompP P tE a ta te isF)
 (hf:P.funcs[f]? =some fn) (hb:fn.body=some (azt ta te tt tb g isF p Z)) (hn:fn.ntmps=17) (hr:fn.results= #[]) (hc:Callable P f) (hG: ∀w,Pres B w->w.cell? ⟨g,0,none⟩=some (.iface tE (.pointer (some a))))
 (o0: ∀w,Below w.heap.size w (zw w)) (hZ:azS P Z zw T tn (out.conc oj) c) (hcells:out.cells=cs) (e0:cs.all SV.one=true) (N:out.ids= []) (l0:szT P T=some cs.length) (n0:szT P tn=some 1):Wz P B f (gu tE a cs c):=by
 intro m bl β w args m' ch Y w0 J v0;refine⟨hc, ?_⟩;unfold gu at J;split at J
 ·rename_i i j;split at J
  ·simp only[za1,zag,true_and] at J;obtain⟨rfl,rfl⟩:=J;have key:=aAR (β:=β) (i:=i) (j:=j) (w:=w) H hf hb hn hr;refine key.mono ?_;rintro e u' w' ⟨rfl,rfl,rfl⟩;exact⟨⟨_,rfl⟩,rfl,Y⟩
  ·rename_i t b;simp only[za1,zag,za2,zdt,zap] at J;obtain⟨⟨h1,rfl,h3,h4,h5⟩,rfl,rfl⟩:=J;have h1:=zab h1;subst h1;obtain⟨C,hC,c1,c2,c3⟩:=ado h4;obtain⟨D,hD,d1,d2,d3⟩:=ado h5;have a0:i≠j:=λe=>by rw[e,bS] at h3;simp at h3
   have hg:=hG w Y.below;have s1:BC B bl β (zw w):=Y.step (o0 w);obtain⟨E1,e1,e2,e3⟩: ∃E,o9 P bl T (.ptr i 0 0) out=some E/\E.need=true/\E.wr=some (i,0,0,cs):=by
    refine⟨{need:=decide (0<C.n),out:= .val undef,wr:=some (i,0,0,cs)}, ?_,by simp[c1],rfl⟩;simp only[o9,hC,c3,l0,hcells,c2,e0];rw[show Nat.beq cs.length cs.length=true by rw[bS];simp,show Nat.ble (0+cs.length) cs.length=true by rw[za7];exact zae (za0 _)];rfl
   have j0:Live bl out:=λk J=>by rw[N] at J;cases J
   obtain⟨ad,id,e,o,B',w2,k1,k2,k3,k4,k5,k6,k7⟩:=wu s1 e1 e2 j0;rw[e3] at k4;simp only[za1,zag] at k4;obtain⟨rfl,rfl,rfl,g0⟩:=k4;rw[hC] at k3;obtain rfl:=zbj k3;obtain⟨E2,f1,f2,f3⟩: ∃E,o9 P (upd bl i (C.put 0 0 cs)) tn (.ptr j 0 0) (.val (.int .i64 c))=some E/\E.need=true/\E.wr=some (j,0,0, [.val (.int .i64 c)]):=by
    refine⟨{need:=decide (0<D.n),out:= .val undef,wr:=some (j,0,0, [.val (.int .i64 c)])}, ?_,by simp[d1],rfl⟩;simp only[o9,ak (Ne.symm a0),hD,d3,n0,d2];rfl
   rw[<-g0] at k7;obtain⟨u0,x0,q2,o2,B2,w3,m1,m2,m3,m4,m5,m6,m7⟩:=wu k7 f1 f2 (λk J=>by simp[SV.ids] at J);rw[f3] at m4;simp only[za1,zag] at m4;obtain⟨rfl,rfl,rfl,q0⟩:=m4;rw[ak (Ne.symm a0),hD] at m3;obtain rfl:=zbj m3;have i0:out.conc β=out.conc oj:=SV.conc_congr out (λi h=>by rw[N] at h;cases h);rw[i0] at k2;simp only[SV.conc,Value.pointer.injEq,za1] at k1 m1;subst k1;subst m1;have key:=aBv (β:=β) (i:=i) (j:=j) H hf hb hn hr hZ hg k2 m2;refine key.mono ?_;rintro e u' w' ⟨rfl,rfl,rfl⟩;refine⟨⟨_,rfl⟩,rfl, ?_⟩;simp only[chB,ai2,hC,hD];exact m7
  ·cases J
 ·cases J
theorem vn {a:Addr} {out:SV} (H:CompP P tE a ta te isF)
 (hf:P.funcs[f]? =some fn) (hb:fn.body=some (azt ta te tt tb g isF p (aDq T tu tn c q r))) (hn:fn.ntmps=17) (hr:fn.results= #[]) (hc:Callable P f) (hG: ∀w,Pres B w->w.cell? ⟨g,0,none⟩=some (.iface tE (.pointer (some a))))
 (hz:xX P T=some cs) (hl: ∀bl,bl 0=some ({n:=1,sz:=cs.length,get:=λ_=>cs,kd:= .own}:Blk)-> ∃E,rH P bl T (.ptr 0 0 0)=some E/\E.need=true/\E.out=out) (hcells:out.cells=cs) (N:cs.all SV.one=true) (J:out.ids= []) (Y:szT P T=some cs.length) (a0:szT P tn=some 1):Wz P B f (gu tE a cs c):=by
 obtain⟨_,_,_,z3⟩:=aIC (P:=P) (β:=oj) B.w hz;exact ay7 (zw:=λw=>w.alloc (.cells (SV.concs oj cs).toArray T)) H hf hb hn hr hc hG (λw=>(zdC _ w).alloc (za0 _) _) (aB8 hz λw=>aEK hl z3 J w) hcells N J Y a0
end Go.Sy
namespace Go.Proofs.YtdjfpjmijhjmpaaGreatDoor
open Go.Proofs.Tryz
open Go Go.RowKit Go.Sy Yk
def evE (a:Addr):Value:= .iface 402 (.pointer (some a))
def GlobE (a:Addr) (w:World):Prop:=GlobU w/\w.cell? ⟨5,0,none⟩=some (evE a)
variable {a:Addr} {w w':World}
theorem GlobE.below (h:GlobE a w) (H:Below w.heap.size w w'):GlobE a w':=by
 refine⟨h.1.below H, ?_⟩;rw[H.cell (p:=⟨5,0,none⟩) (World.block_lt_of_cell? w _ h.2)];exact h.2
def GlobEB (a:Addr) (B:Base):Prop:= ∀w,Pres B w->GlobE a w
variable {B:Base}
theorem GlobEB.gU (h:GlobEB a B):GlobB B:=λw H=>(h w H).1
variable {W:World}
theorem GlobEB.of (h:GlobE a W):GlobEB a W:=λw H=>h.below H.below
theorem GlobEB.sub {W:Base} (h:GlobEB a W) (s:SubB B W):GlobEB a B:=λw H=>h w (s.pres H)
theorem afL (v:Value) (w:World):(Extern.ReflectliteType.typeOf #[.iface 402 v]).run prog w= .ok (.iface 308 (.agg #[.pointer (some ⟨14,402,none⟩)])) w:=by kernel_rfl
theorem ac8 (w:World):((Extern.ReflectliteType.method λt=>do Extern.Rtype.noPackHeld "Comparable" t;(λa=>Value.bool a.comparable)<$>typeInfo t) #[.agg #[.pointer (some ⟨14,402,none⟩)]]).run prog w= .ok (.bool true) w:=by kernel_rfl
theorem afM (v:Value) (w:World):(Go.method 550 308 v "Comparable").run prog w= .ok (431,v) w:=by kernel_rfl
theorem ahB:(prog.info? 402).map (·.comparable)=some true:=by kernel_rfl
theorem ahC:(prog.info? 404).map (·.size)=some 1:=by kernel_rfl
theorem ahD (a:Addr) (w:World):Calls prog 115 #[evE a,evE a] w λe w'=>e= .returned (.bool true)/\w'=w:=by
 unfold evE;obtain⟨i,hi,hcmp⟩:=zbE.1 ahB;obtain⟨j,hj,hjs⟩:=zbE.1 ahC;have h8:= @run_callFunc_extern prog 212 _ Extern.ReflectliteType.typeOf func212 (by kernel_rfl) (by kernel_rfl) (by kernel_rfl) (by kernel_rfl);have h32:= @run_callFunc_extern prog 431 _ (Extern.ReflectliteType.method λt=>do Extern.Rtype.noPackHeld "Comparable" t;pure (.bool (<-typeInfo t).comparable)) func431 (by kernel_rfl) (by kernel_rfl) (by kernel_rfl) (by kernel_rfl);have tT:=afL;have cT:=ac8;have mR:=afM;have heq:=run_eql_iface_ptr_same (P:=prog) w a underlying128 underlying402 hi hcmp hj;go_enter func115,ntmps115;go_wp2;refine wp_loop_rounds 1 ?_;rw[rounds_succ];go_wp2;go_ret;exact⟨rfl,rfl⟩
theorem ahE (H:Value) (w:World):(Instr.typeAssert (.iface 402 H) 20 128 true).run prog w= .ok (.tuple #[.iface 402 H, .bool true]) w:=by kernel_rfl
theorem ai1 (w:World):(Instr.typeAssert .nilIface 20 128 true).run prog w= .ok (.tuple #[.nilIface, .bool false]) w:=by kernel_rfl
theorem ayJ (a:Addr):CompP prog 402 a 20 128 115:=⟨λw=>ahE _ w,λw=>ai1 w,λw=>ahD a w,call115,by kernel_rfl⟩
def agB (a:Addr):DCtr:=gu 402 a (aAP noI) 50
theorem agC (a:Addr) (B:Base) (hB:GlobEB a B):Wz prog B 326 (agB a):=
 vn (ayJ a) (tt:=171) (tu:=0) (tb:=4) (T:=109) (tn:=25) (out:= .agg (aAP noI)) (p:= "enclosure.go:56") (q:= "enclosure.go:57") (r:= "enclosure.go:58") (g:=5) func326 (by kernel_rfl) ntmps326 results326 call326 (λw H=>(hB w H).2)
  (by kernel_rfl) (λbl h=>⟨{need:=true,out:= .agg (aAP noI),rd:= [0]},by unfold rH;simp only[h];kernel_rfl,rfl,rfl⟩) rfl (by kernel_rfl) rfl (by kernel_rfl) (by kernel_rfl)
def ai3 (a:Addr):MCtr:=λ_ _ args=>match args with
 | [.val (.bool true)]=>some {X:=Unit,pre:=true,spec:=λ_=>True,out:=λ_=> .tup [],ex:=λ_=>⟨(),trivial⟩}
 | [.val (.bool false)]=>some {X:=Unit,pre:=true,spec:=λ_=>True,out:=λ_=> .tup [],pan:=λ_=>some (evE a),ex:=λ_=>⟨(),trivial⟩}
 |_=>none
def aeE:List FuncId:=
 269::
 261::
 324::
 325::
 190::
 198::
 265::
 329::
 267::
 264::
 326::
 328::
 271::
 270::
 266::
 268::
 322::
 344::
 327::
 371::
 220::
 215::
 125::
 248::
 214::
 163::
 39::
 290::
 49::
 139::
 v9
theorem ae8: ∀f∈aeE,Callable prog f:=by
 unfold aeE;simp only[zc2]
 exact⟨
  call269,
  call261,
  call324,
  call325,
  call190,
  call198,
  call265,
  call329,
  call267,
  call264,
  call326,
  call328,
  call271,
  call270,
  call266,
  call268,
  call322,
  call344,
  call327,
  call371,
  call220,
  call215,
  call125,
  call248,
  call214,
  call163,
  call39,
  call290,
  call49,
  call139,
  zG⟩
structure GEk (g:List (FuncId×Ctr)):Prop where
 all: ∀(a:Addr) (W:World),GlobE a W-> ∀p∈g,CtrOK prog W p.1 p.2/\Callable prog p.1
variable {g:List (FuncId×Ctr)}
theorem GEk.of (h:GOk g):GEk g:=⟨λ_ W H=>h.all W H.1⟩
variable {F:FuncId} {c:Ctr}
theorem GEk.cons (h:GEk g) (k: ∀(a:Addr) (W:World),GlobE a W->CtrOK prog W F c) (J:Callable prog F):GEk ((F,c)::g):=⟨λa W H p hp=>by
 rcases zai.1 hp with rfl|hp
 ·exact⟨k a W H,J⟩
 ·exact h.all a W H p hp⟩
structure MEk (a:Addr) (gm:List (FuncId×MCtr)):Prop where
 all: ∀B:Base,GlobEB a B-> ∀p∈gm,VU prog B p.1 p.2
theorem MEk.nil:MEk a []:=⟨λ_ _ _ h=>by cases h⟩
variable {gm:zdW}
theorem MEk.of (h:MOk gm):MEk a gm:=⟨λB hB=>h.all B hB.gU⟩
variable {k:MCtr}
theorem MEk.cons (h:MEk a gm) (H: ∀B:Base,GlobEB a B->VU prog B F k):MEk a ((F,k)::gm):=⟨λB hB p hp=>by
 rcases zai.1 hp with rfl|hp
 ·exact H B hB
 ·exact h.all B hB p hp⟩
def dF (a:Addr):FuncId->Option DCtr:=λf=>bif Nat.beq f 326 then some (agB a) else tL f
theorem ac9 (hg:GEk g) (N:MEk a gm) (hB:GlobEB a B):HypD prog B (iR aeE) (gw g) (gx gm) (dF a):=
 have h:Hyp prog B (iR aeE) (gw g) (gx gm):=mW (λp hp=>⟨CtrOK.base λw Y=>(hg.all a w (hB w Y) p hp).1,(hg.all a B.w (hB B.w (Pres.self B)) p hp).2⟩) (λB' s=>N.all B' (hB.sub s)) ae8 (by kernel_rfl)
 ⟨h.gam,h.mem,λB' s f k H=>by
   unfold dF at H;cases J:Nat.beq f 326 with
   |true=>
    rw[J] at H;simp only[zdr,za1] at H;subst H;rw[zab J];exact agC a B' (hB.sub s)
   |false=>
    rw[J,zdq] at H
    exact(aIi MOk.nil hB.gU).dem B' s f k H,h.ok,h.mixed⟩
def M9:List FuncId:=
 76::
 162::
 117::
 119::
 136::
 134::
 135::
 224::
 137::
 223::
 196::
 260::
 178::
 195::
 167::
 187::
 168::
 179::
 43::
 120::
 38::
 94::
 28::
 100::
 189::
 98::
 185::
 191::
 262::
 91::
 174::
 175::
 27::
 193::
 102::
 197::
 96::
 87::
 166::
 169::
 263::
 194::
 184::
 257::
 259::
 173::
 254::
 255::
 186::
 258::
 192::
 176::
 188::
 170::
 109::
 294::
 352::
 128::
 379::
 219::
 287::
 335::
 21::
 74::
 18::
 55::
 56::
 62::
 63::
 64::
 66::
 68::
 70::
 14::
 41::
 12::
 36::
 25::
 85::
 86::
 89::
 93::
 95::
 97::
 99::
 101::
 17::
 51::
 53::
 84::
 165::
 54::
 143::
 50::
 142::
 40::
 124::
 35::
 114::
 37::
 116::
 90::
 59::
 77::
 52::
 42::
 127::
 92::
 181::
 182::
 183::
 61::
 149::
 150::
 151::
 235::
 306::
 103::
 88::
 58::
 171::
 244::
 108::
 172::
 147::
 253::
 317::
 126::
 342::
 343::
 341::
 340::
 289::
 382::
 217::
 218::
 408::
 397::
 291::
 216::
 123::
 347::
 348::
 345::
 350::
 349::
 346::
 351::
 6::
 5::
 3::
 4::
 11::
 10::
 16::
 20::
 13::
 24::
 7::
 23::
 141::
 222::
 204::
 110::
 140::
 30::
 113::
 112::
 138::
 211::
 225::
 292::
 48::
 47::
 130::
 46::
 132::
 133::
 129::
 131::
 73::
 160::
 26::
 105::
 238::
 308::
 33::
 34::
 8::
 15::
 9::
 31::
 32::
 29::
 45::
 44::
 aeE
theorem aAj: ∀f∈M9,Callable prog f:=by
 unfold M9;simp only[zc2]
 exact⟨
  call76,
  call162,
  call117,
  call119,
  call136,
  call134,
  call135,
  call224,
  call137,
  call223,
  call196,
  call260,
  call178,
  call195,
  call167,
  call187,
  call168,
  call179,
  call43,
  call120,
  call38,
  call94,
  call28,
  call100,
  call189,
  call98,
  call185,
  call191,
  call262,
  call91,
  call174,
  call175,
  call27,
  call193,
  call102,
  call197,
  call96,
  call87,
  call166,
  call169,
  call263,
  call194,
  call184,
  call257,
  call259,
  call173,
  call254,
  call255,
  call186,
  call258,
  call192,
  call176,
  call188,
  call170,
  call109,
  call294,
  call352,
  call128,
  call379,
  call219,
  call287,
  call335,
  call21,
  call74,
  call18,
  call55,
  call56,
  call62,
  call63,
  call64,
  call66,
  call68,
  call70,
  call14,
  call41,
  call12,
  call36,
  call25,
  call85,
  call86,
  call89,
  call93,
  call95,
  call97,
  call99,
  call101,
  call17,
  call51,
  call53,
  call84,
  call165,
  call54,
  call143,
  call50,
  call142,
  call40,
  call124,
  call35,
  call114,
  call37,
  call116,
  call90,
  call59,
  call77,
  call52,
  call42,
  call127,
  call92,
  call181,
  call182,
  call183,
  call61,
  call149,
  call150,
  call151,
  call235,
  call306,
  call103,
  call88,
  call58,
  call171,
  call244,
  call108,
  call172,
  call147,
  call253,
  call317,
  call126,
  call342,
  call343,
  call341,
  call340,
  call289,
  call382,
  call217,
  call218,
  call408,
  call397,
  call291,
  call216,
  call123,
  call347,
  call348,
  call345,
  call350,
  call349,
  call346,
  call351,
  call6,
  call5,
  call3,
  call4,
  call11,
  call10,
  call16,
  call20,
  call13,
  call24,
  call7,
  call23,
  call141,
  call222,
  call204,
  call110,
  call140,
  call30,
  call113,
  call112,
  call138,
  call211,
  call225,
  call292,
  call48,
  call47,
  call130,
  call46,
  call132,
  call133,
  call129,
  call131,
  call73,
  call160,
  call26,
  call105,
  call238,
  call308,
  call33,
  call34,
  call8,
  call15,
  call9,
  call31,
  call32,
  call29,
  call45,
  call44,
  ae8⟩
structure Ad3 where
 e:Addr
 f:Addr
 p:Addr
def GlobP (d:Ad3) (w:World):Prop:=GlobE d.e w/\w.cell? ⟨4,0,none⟩=some (evE d.f)/\w.cell? ⟨2,0,none⟩=some (evE d.p)
variable {d:Ad3}
theorem GlobP.below (h:GlobP d w) (H:Below w.heap.size w w'):GlobP d w':=by
 refine⟨h.1.below H, ?_, ?_⟩
 ·rw[H.cell (p:=⟨4,0,none⟩) (World.block_lt_of_cell? w _ h.2.1)];exact h.2.1
 ·rw[H.cell (p:=⟨2,0,none⟩) (World.block_lt_of_cell? w _ h.2.2)];exact h.2.2
def GlobPB (d:Ad3) (B:Base):Prop:= ∀w,Pres B w->GlobP d w
theorem GlobPB.gE (h:GlobPB d B):GlobEB d.e B:=λw H=>(h w H).1
theorem GlobPB.of (h:GlobP d W):GlobPB d W:=λw H=>h.below H.below
theorem GlobPB.sub {W:Base} (h:GlobPB d W) (s:SubB B W):GlobPB d B:=λw H=>h w (s.pres H)
theorem aAk (yes: ∀w,Calls prog F #[.bool true] w λe w'=>e= .returned (.tuple #[])/\w'=w) (no: ∀w,Pres B w->Calls prog F #[.bool false] w λe w'=>e= .panicked [{v:=evE a,recovered:=false}]/\w'=w):VU prog B F (ai3 a):=by
 intro bl β w nx args C H hit N Y J hp;unfold ai3 at J;split at J
 ·simp only[za1] at J;subst J;refine(yes w).mono ?_;rintro e w' ⟨rfl,rfl⟩;exact⟨(),trivial,β,by show _=_;simp[SV.conc,SV.concs],abx H N (by simp[SV.ids,SV.idss]) (zdC _ _)⟩
 ·simp only[za1] at J;subst J;refine(no w H.below).mono ?_;rintro e w' ⟨rfl,rfl⟩;obtain⟨g1,g2,_⟩:=abx (s:= .tup []) H N (by simp[SV.ids,SV.idss]) (zdC _ w');exact⟨(),trivial,β,rfl,g1,g2,trivial⟩
 ·cases J
theorem aB9 (hB:GlobPB d B):VU prog B 194 (ai3 d.f):=by
 refine aAk (λw=> ?_) λw hw=> ?_
 ·go_enter func194,ntmps194;go_wp2
  go_end0
  exact⟨rfl,rfl⟩
 ·have h:=(hB w hw).2.1;go_enter func194,ntmps194;go_wp2;exact⟨rfl,rfl,rfl⟩
theorem aCa (hB:GlobPB d B):VU prog B 53 (ai3 d.p):=by
 refine aAk (λw=> ?_) λw hw=> ?_
 ·go_enter func53,ntmps53;go_wp2
  go_end0
  exact⟨rfl,rfl⟩
 ·have h:=(hB w hw).2.2;go_enter func53,ntmps53;go_wp2;exact⟨rfl,rfl,rfl⟩
def zR:zdJ:= [.val (.string ⟨#[]⟩), .val (.string ⟨#[]⟩)]
def zFm:zdJ:= [.val (.string ⟨#[]⟩), .val (.string ⟨#[]⟩), .val (.slice none 0 0), .val (.string ⟨#[]⟩), .val (.string ⟨#[]⟩)]
def zIn:zdJ:= [.val (.int .i64 0), .val (.int .i64 0), .val (.string ⟨#[]⟩), .val (.string ⟨#[]⟩)]
theorem aCR (hB:GlobPB d B):Wz prog B 165 (gu 402 d.p (zFm) 110):=
 vn (ayJ d.p) (tt:=171) (tu:=0) (tb:=4) (T:=71) (tn:=25) (out:= .agg (zFm)) (p:= "plan.go:36") (q:= "plan.go:37") (r:= "plan.go:38") (g:=2) func165 (by kernel_rfl) ntmps165 results165 call165 (λw H=>(hB w H).2.2)
  (by kernel_rfl) (λbl h=>⟨{need:=true,out:= .agg (zFm),rd:= [0]},by unfold rH;simp only[h];kernel_rfl,rfl,rfl⟩) rfl (by kernel_rfl) rfl (by kernel_rfl) (by kernel_rfl)
theorem aCb (hB:GlobPB d B):Wz prog B 142 (gu 402 d.p [.val (.int .i64 0)] 110):=
 ay7 (ayJ d.p) (tt:=171) (tb:=4) (T:=3) (tn:=25) (out:= .val (.int .i64 0)) (p:= "plan.go:36") (Z:=aB6 (.int .i64 0) 3 0 25 110 "plan.go:37" "plan.go:38") (g:=2) func142 (by kernel_rfl) ntmps142 results142 call142 (λw H=>(hB w H).2.2)
  (zw:=λw=>w) (λw=>zdC _ w) aAi rfl (by kernel_rfl) rfl (by kernel_rfl) (by kernel_rfl)
theorem aDR (hB:GlobPB d B):Wz prog B 143 (gu 402 d.p (zR) 110):=
 vn (ayJ d.p) (tt:=171) (tu:=0) (tb:=4) (T:=50) (tn:=25) (out:= .agg (zR)) (p:= "plan.go:36") (q:= "plan.go:37") (r:= "plan.go:38") (g:=2) func143 (by kernel_rfl) ntmps143 results143 call143 (λw H=>(hB w H).2.2)
  (by kernel_rfl) (λbl h=>⟨{need:=true,out:= .agg (zR),rd:= [0]},by unfold rH;simp only[h];kernel_rfl,rfl,rfl⟩) rfl (by kernel_rfl) rfl (by kernel_rfl) (by kernel_rfl)
theorem aCS (hB:GlobPB d B):Wz prog B 114 (gu 402 d.p [.val (.string ⟨#[]⟩)] 110):=
 ay7 (ayJ d.p) (tt:=171) (tb:=4) (T:=9) (tn:=25) (out:= .val (.string ⟨#[]⟩)) (p:= "plan.go:36") (Z:=aB6 (.string ⟨#[]⟩) 9 0 25 110 "plan.go:37" "plan.go:38") (g:=2) func114 (by kernel_rfl) ntmps114 results114 call114 (λw H=>(hB w H).2.2)
  (zw:=λw=>w) (λw=>zdC _ w) aAi rfl (by kernel_rfl) rfl (by kernel_rfl) (by kernel_rfl)
theorem aCT (hB:GlobPB d B):Wz prog B 124 (gu 402 d.p (zIn) 110):=
 vn (ayJ d.p) (tt:=171) (tu:=0) (tb:=4) (T:=97) (tn:=25) (out:= .agg (zIn)) (p:= "plan.go:36") (q:= "plan.go:37") (r:= "plan.go:38") (g:=2) func124 (by kernel_rfl) ntmps124 results124 call124 (λw H=>(hB w H).2.2)
  (by kernel_rfl) (λbl h=>⟨{need:=true,out:= .agg (zIn),rd:= [0]},by unfold rH;simp only[h];kernel_rfl,rfl,rfl⟩) rfl (by kernel_rfl) rfl (by kernel_rfl) (by kernel_rfl)
theorem aCU (hB:GlobPB d B):Wz prog B 254 (gu 402 d.f (zFm) 80):=
 vn (ayJ d.f) (tt:=171) (tu:=0) (tb:=4) (T:=71) (tn:=25) (out:= .agg (zFm)) (p:= "affine.go:33") (q:= "affine.go:34") (r:= "affine.go:35") (g:=4) func254 (by kernel_rfl) ntmps254 results254 call254 (λw H=>(hB w H).2.1)
  (by kernel_rfl) (λbl h=>⟨{need:=true,out:= .agg (zFm),rd:= [0]},by unfold rH;simp only[h];kernel_rfl,rfl,rfl⟩) rfl (by kernel_rfl) rfl (by kernel_rfl) (by kernel_rfl)
theorem aCV (hB:GlobPB d B):Wz prog B 324 (gu 402 d.f (aAP noI) 80):=
 vn (ayJ d.f) (tt:=171) (tu:=0) (tb:=4) (T:=109) (tn:=25) (out:= .agg (aAP noI)) (p:= "affine.go:33") (q:= "affine.go:34") (r:= "affine.go:35") (g:=4) func324 (by kernel_rfl) ntmps324 results324 call324 (λw H=>(hB w H).2.1)
  (by kernel_rfl) (λbl h=>⟨{need:=true,out:= .agg (aAP noI),rd:= [0]},by unfold rH;simp only[h];kernel_rfl,rfl,rfl⟩) rfl (by kernel_rfl) rfl (by kernel_rfl) (by kernel_rfl)
def aA8:List (FuncId×DCtr)->FuncId->Option DCtr
 | [],_=>none
 |(g,k)::r,f=>bif Nat.beq f g then some k else aA8 r f
theorem azv: ∀{l:List (FuncId×DCtr)} {f:FuncId} {k:DCtr},aA8 l f=some k->(f,k)∈l
 | [],f,k,h=>by cases h
 |(g,c)::r,f,k,h=>by
  simp only[aA8] at h;cases H:Nat.beq f g with
  |true=>
   rw[H] at h;simp only[zdr,za1] at h;subst h;rw[zab H];simp
  |false=>rw[H] at h;exact zan _ (azv h)
def aCc (d:Ad3):List (FuncId×DCtr):=
 (165,gu 402 d.p (zFm) 110)::
 (142,gu 402 d.p [.val (.int .i64 0)] 110)::
 (143,gu 402 d.p (zR) 110)::
 (114,gu 402 d.p [.val (.string ⟨#[]⟩)] 110)::
 (124,gu 402 d.p (zIn) 110)::
 (254,gu 402 d.f (zFm) 80)::
 (324,gu 402 d.f (aAP noI) 80)::
 []
theorem aCd (hB:GlobPB d B): ∀p∈aCc d,Wz prog B p.1 p.2:=by
 unfold aCc;simp only[zc2]
 exact⟨
  aCR hB,
  aCb hB,
  aDR hB,
  aCS hB,
  aCT hB,
  aCU hB,
  aCV hB,
  λp hp=>by cases hp⟩
def ax8 (d:Ad3) (f:FuncId):Option DCtr:=match aA8 (aCc d) f with
 |some k=>some k
 |none=>dF d.e f
structure GPk (g:List (FuncId×Ctr)):Prop where
 all: ∀(d:Ad3) (W:World),GlobP d W-> ∀p∈g,CtrOK prog W p.1 p.2/\Callable prog p.1
theorem GPk.of (h:GEk g):GPk g:=⟨λd W H=>h.all d.e W H.1⟩
theorem GPk.cons (h:GPk g) (k: ∀(d:Ad3) (W:World),GlobP d W->CtrOK prog W F c) (J:Callable prog F):GPk ((F,c)::g):=⟨λd W H p hp=>by
 rcases zai.1 hp with rfl|hp
 ·exact⟨k d W H,J⟩
 ·exact h.all d W H p hp⟩
structure MPk (d:Ad3) (gm:List (FuncId×MCtr)):Prop where
 all: ∀B:Base,GlobPB d B-> ∀p∈gm,VU prog B p.1 p.2
theorem MPk.of (h:MEk d.e gm):MPk d gm:=⟨λB hB=>h.all B hB.gE⟩
theorem MPk.cons (h:MPk d gm) (H: ∀B:Base,GlobPB d B->VU prog B F k):MPk d ((F,k)::gm):=⟨λB hB p hp=>by
 rcases zai.1 hp with rfl|hp
 ·exact H B hB
 ·exact h.all B hB p hp⟩
theorem aCW (hg:GPk g) (N:MPk d gm) (hB:GlobPB d B):HypD prog B (iR M9) (gw g) (gx gm) (ax8 d):=
 have h:Hyp prog B (iR M9) (gw g) (gx gm):=mW (λp hp=>⟨CtrOK.base λw Y=>(hg.all d w (hB w Y) p hp).1,(hg.all d B.w (hB B.w (Pres.self B)) p hp).2⟩) (λB' s=>N.all B' (hB.sub s)) aAj (by kernel_rfl)
 ⟨h.gam,h.mem,λB' s f k H=>by
   unfold ax8 at H;split at H
   ·rename_i k' J;simp only[za1] at H;subst H;exact aCd (hB.sub s) _ (azv J)
   ·exact(ac9 (GEk.of GOk.nil) (MEk.nil (a:=d.e)) hB.gE).dem B' s f k H,h.ok,h.mixed⟩
def eo:Nat->zdG
 |0=>⟨#[112,117,115,104]⟩
 |1=>⟨#[105,110,112,117,116]⟩
 |2=>⟨#[100,117,112]⟩
 |3=>⟨#[115,119,97,112]⟩
 |4=>⟨#[97,100,100]⟩
 |5=>⟨#[115,117,98]⟩
 |6=>⟨#[109,117,108]⟩
 |7=>⟨#[105,110,118]⟩
 |8=>⟨#[115,113,114,116]⟩
 |_=>⟨#[101,110,100]⟩
def gi:Nat->Int
 |0|1|2=>0
 |3|4|5|6=>2
 |7|8=>1
 |_=>0
def lj:Nat->Int
 |0|1|2=>1
 |3=>2
 |4|5|6|7|8=>1
 |_=>0
def ayw (d:Ad3) (g:List (FuncId×Ctr)) (gm:zdW) (ann:zdV) (n:Nat) (f:FuncId) (args:zdJ) (Cs:zdU) (K:Aft):Prop:=
 Ay prog (iR M9) (gw g) (gx gm) (ax8 d) ann n f args (λi=>Cs[i]?) Cs.length [] K
abbrev my (d:Ad3) (g:List (FuncId×Ctr)) (gm:zdW) (ann:zdV) (n:Nat) (f:FuncId) (args:zdJ) (K:zdR):Prop:=wn prog (iR M9) (gw g) (gx gm) (ax8 d) ann n f args (λ_=>none) 0 [] (Go.Sy.okK λr _ _ _=>K r)
variable {g:List (FuncId×Ctr)} {gm:zdW} {d:Ad3} {ann:zdV} {n:Nat} {F:FuncId} {args:zdJ}
theorem gn (h:GPk g) (hm:MPk d gm) {W0:World} (hg:GlobP d W0) {r:SV} (H:SV.idss args= []) (hr:r.ids= []) (J:my d g gm ann n F args (λs=>s=r)):Go.Sy.Yields prog W0 F args r:=by
 intro β w hb
 obtain⟨_,hc⟩:=(mV (aCW h hm (GlobPB.of (hg.below hb))) ann n).call F args (λ_=>none) 0 [] _ β w J (sP w β) (λ_ _=>rfl) (λs hs i hi=>by
  have:i∈SV.idss args:=SV.mem_idss.2 ⟨s,hs,hi⟩
  rw[H] at this;cases this)
 refine Calls.mono hc ?_;rintro e w' ⟨β',s,bl',a0,e0,he,Y,N,_⟩;cases s with
 |pan v=>exact Y.elim
 |ok s=>
 obtain rfl:e=_:=he;obtain rfl:s=_:=Y;exact⟨by rw[SV.conc_congr s (β:=β) (β':=β') (λi hi=>by rw[hr] at hi;cases hi)],N.below.below⟩
theorem azw {f:FuncId} {Cs:zdU} {K K':Aft} (h:ayw d g gm ann n f args Cs K) (H: ∀r b n w,K r b n w->K' r b n w):ayw d g gm ann n f args Cs K':=by
 unfold ayw at h ⊢;exact NiceT.mono (Ea _ _ _ _ _ _ f args _ _ _ (λi hi=>zad hi)) h λr b n w _=>H r b n w
theorem aEL (hg:GPk g) (H:MPk d gm) {k:MCtr} (h: ∀(bl:zdL) (nx:Nat) (args:zdJ) (C:RC),k bl nx args=some C->C.pre=true->
 ∃(src:zdT) (Cs:zdU) (args0:zdJ) (ann:zdV) (n:Nat),yw bl (rnF src [] nx) src Cs/\Kr src Cs/\Far src Cs/\SV.rns (rnF src [] nx) args0=some args/\
  ayw d g gm ann n F args0 Cs (KB C src Cs nx)): ∀B:Base,GlobPB d B->VU prog B F k:=λB hB=>c8 (λB' J=>aCW hg H (hB.sub J)) (by unfold ayw at h;exact h)
def ay8 (e:Nat):zdJ:= [.val (.string (eo e)), .val (.int .i64 (gi e)), .val (.int .i64 (lj e))]
def Kf (g:zdM):Nat->List (zdJ)
 |0=> []
 |n+1=>Kf g n++ [g n]
def KOp (Q:Nat->List (zdJ)->Prop):Aft:=λr bl _ _=>match r with
 | .ok (.slc m 0 10)=>(match bl m with
   |some B=>(match B.kd with
    | .own=>bif Nat.beq B.n 10&&(Nat.beq B.sz 3&&B.nn) then Q m (Kf B.get 10) else False
    |_=>False)
   |none=>False)
 |_=>False
theorem aCe (d:Ad3) (Q:Nat->List (zdJ)->Prop):ayw d [] [] (λ_ _=>none) 3 52 [] [] (KOp Q)=Q 11 (Kf ay8 10):=by kernel_rfl
theorem azx {g h:zdM}: ∀{n:Nat},Kf g n=Kf h n-> ∀e,e<n->g e=h e
 |n+1,N,e,he=>by
  simp only[Kf] at N;have J: ∀(g:zdM) (n:Nat),(Kf g n).length=n:=λg n=>by
   induction n with
   |zero=>rfl
   |succ n Y=>simp[Kf,Y]
  obtain⟨h1,h2⟩:=List.append_inj N (by rw[J,J]);by_cases H:e=n
  ·subst H;simpa using h2
  ·exact azx h1 e (by omega)
def aDS (nx:Nat):RC:={X:=Unit,pre:=true,spec:=λ_=>True,out:=λ_=> .slc nx 0 10,nw:=λ_=> [{n:=10,sz:=3,get:=ay8,kd:= .own}],ex:=λ_=>⟨(),trivial⟩}
def aDT:MCtr:=λ_ nx args=>match args with
 | []=>some (aDS nx)
 |_=>none
theorem aFi {nx:Nat} {r:Res} {bl:zdL} {w:zdH} (h:KOp (λm l=>m=11/\l=Kf ay8 10) r bl n w):KB (aDS nx) [] [] nx r bl n w:=by
 unfold KOp at h;split at h
 ·rename_i m;split at h
  ·rename_i B hB;split at h
   ·rename_i hk;cases H:(Nat.beq B.n 10&&(Nat.beq B.sz 3&&B.nn)) with
    |false=>rw[H] at h;exact h.elim
    |true=>
     rw[H,zdr] at h;obtain⟨rfl,hg⟩:=h;simp only[za2] at H;obtain⟨J,N,b3⟩:=H;have J:=zab J;have N:=zab N;have Y:dt [] [some 11] nx (nx+0)=some (some 11):=jA 0;refine⟨(),trivial, [some 11],⟨_,rfl, ?_⟩,by decide,⟨⟨zaA _, ?_⟩,trivial⟩,trivial⟩
     ·show SV.rn (dt [] [some 11] nx) (.slc nx 0 10)=_;rw[zaY] at Y;simp only[SV.rn,Y]
     ·rw[hB];refine⟨by simp,λ_=> .inl rfl, .inr ⟨hk.symm,N.symm,λ_=>b3,by rw[J];exact za0 _,λe he=> ?_⟩⟩;rw[azx hg e he];rfl
   ·exact h.elim
  ·exact h.elim
 ·exact h.elim
theorem aBw (d:Ad3) (nx:Nat):ayw d [] [] (λ_ _=>none) 3 52 [] [] (KB (aDS nx) [] [] nx):=by
 have h:ayw d [] [] (λ_ _=>none) 3 52 [] [] (KOp λm l=>m=11/\l=Kf ay8 10):=by
  rw[aCe];exact⟨rfl,rfl⟩
 refine azw (K:=KOp λm l=>m=11/\l=Kf ay8 10) h ?_;intro r b n w hq;exact aFi hq
theorem aCX : ∀B:Base,GlobPB d B->VU prog B 52 aDT:=aEL (GPk.of (GEk.of GOk.nil)) (MPk.of MEk.nil) λbl nx args C H hp=>by
 unfold aDT at H;split at H
 ·simp only[za1] at H;subst H;exact⟨[], [], [],λ_ _=>none,3,trivial,bH (λC J=>by cases J), .inl (λC J=>by cases J),rfl,aBw d nx⟩
 ·cases H
def aDr:TV->zdG
 | .v (.val (.string s))=>s
 |_=>⟨#[]⟩
def ay9 (p:zdG):Nat->Int
 |0=>0
 |k+1=>(((ay9 p k*256).toNat|||(F6 p k).toNat:Nat):Int)
def nc (p:zdG) (z:Int×Int):Prop:=0<=z.1/\z.1<=p.size/\z.2=ay9 p z.1.toNat
def aDs:zdV:=λf k=>bif Nat.beq f 117&&Nat.beq k 2 then some (λA=>{X:=Int×Int,inv:=nc (aDr (A.tm 9)),tm:=λx=> [(12, .val (.int .i64 x.1)),(4, .val (.int .i64 x.2))],mu:=λx=>(((aDr (A.tm 9)).size:Int) - x.1).toNat,keep:= [10,11]}) else none
def azT (d:Ad3):zdW:= [(52,aDT),(53,ai3 d.p),(53+1073741824,λ_ _ _=>none),(194,ai3 d.f),(194+1073741824,λ_ _ _=>none)]
def aEM (p:zdG) (q:Nat) (i v:Int) (z:Int×Int):Prop:=(TV.v (cI.enc i)=TV.v (cI.enc z.1)/\TV.v (cI.enc v)=TV.v (cI.enc z.2)/\TV.v (.slc q 0 p.size)=TV.v (.slc q 0 p.size)/\TV.v (cI.enc (p.size:Int))=TV.v (cI.enc (p.size:Int))/\True)/\(True/\(True/\True))
def aBx (p:zdG) (q:Nat) (K:Int->Prop):Prop:= ∃J:Int×Int,nc p J/\(aEM p q 0 0 J/\ ∀z:Int×Int,nc p z->ag (decide (z.1<(p.size:Int)))
 (ah (decide (0<=z.1)&&decide (z.1<(p.size:Int))) (ah (decide (0+z.1.toNat<p.size)) (ah (decide ((0:Int)<=8)&&inR .i64 (z.2*256)) (ah (inR .i64 (F6 p (0+z.1.toNat)))
   (ah (decide (0<=z.2*256)&&decide (0<=F6 p (0+z.1.toNat))&&(inR .i64 (z.2*256)&&inR .i64 (F6 p (0+z.1.toNat)))) (ah (inR .i64 (z.1+1))
     (∃H:Int×Int,nc p H/\(((p.size:Int) - H.1).toNat<((p.size:Int) - z.1).toNat/\aEM p q (z.1+1) ((((z.2*256).toNat|||(F6 p (0+z.1.toNat)).toNat:Nat):Int)) H))))))))
 (K z.2))
def aza (s:zdG) (n:Int) (K:ByteArray->ByteArray->Prop) (E:Prop):Prop:=ag (decide (n<=(s.size:Int))) (Unit->True->ah (decide (0<=n)&&decide (n<=(s.size:Int))) (ah (decide (0<=n)&&decide (n<=(s.size:Int))) (K (s.extract 0 n.toNat) (s.extract n.toNat s.size)))) (Unit->True->E)
theorem aAl (p:zdG) (i:Nat):0<=F6 p i/\F6 p i<=255:=by
 unfold F6;split
 ·rename_i b _;have:=b.toNat_lt;omega
 ·omega
theorem aCY (p:zdG):0<=ay9 p 0/\ay9 p 0<=255/\0<=ay9 p 1/\ay9 p 1<=255:=by
 obtain⟨h1,h2⟩:=aAl p 0;have e:ay9 p 1=((F6 p 0).toNat:Int):=by
  show ((((0:Int)*256).toNat|||(F6 p 0).toNat:Nat):Int)=_;simp
 rw[e];refine⟨zat _, ?_,by omega,by omega⟩;show (0:Int)<=255;decide
theorem azU {p:zdG} {q:Nat} {K:Int->Prop} (hp:p.size<=2) (k:K (ay9 p p.size)):aBx p q K:=by
 refine⟨(0,0),⟨zat _,Int.natCast_nonneg _,rfl⟩,⟨⟨rfl,rfl,rfl,rfl,trivial⟩,trivial,trivial,trivial⟩, ?_⟩;rintro⟨i,v⟩ ⟨h0,h1,h2⟩;dsimp only at h0 h1 h2 ⊢;refine bI (λH=> ?_) λH=> ?_
 ·have H:=zdu H;have hv:0<=v/\v<=255:=by
   obtain⟨a,b,c,d⟩:=aCY p;have:i.toNat=0\/i.toNat=1:=by omega
   rcases this with h|h<;>rw[h2,h]<;>exact⟨by assumption,by assumption⟩
  obtain⟨b0,N⟩:=aAl p (0+i.toNat);have inr: ∀{x:Int},0<=x->x<=1000000->inR .i64 x=true:=λY H=>Wl.2 ⟨by show (-9223372036854775808:Int)<=_;omega,by show _<=(9223372036854775807:Int);omega⟩;have J:=inr (x:=v*256) (by omega) (by omega);have e2:=inr b0 (by omega);refine ac (by rw[zdp h0,zdp H];rfl) (ac (zdp (by omega)) (ac (by rw[J];rfl) (ac e2 (ac (by rw[J,e2,zdp b0,zdp (show 0<=v*256 by omega)];rfl) (ac (inr (by omega) (by omega)) ?_)))));refine⟨(i+1,(((v*256).toNat|||(F6 p (0+i.toNat)).toNat:Nat):Int)),⟨by show 0<=i+1;omega,by show i+1<=_;omega, ?_⟩,by show ((p.size:Int) - (i+1)).toNat<_;omega,⟨rfl,rfl,rfl,rfl,trivial⟩,trivial,trivial,trivial⟩;show _=ay9 p (i+1).toNat;rw[show (i+1).toNat=i.toNat+1 by omega,za7,h2];rfl
 ·have H:=zdv H;have:i=(p.size:Int):=by omega
  subst this;rw[h2];exact k
abbrev InX:=Int×Int×(ByteArray×ByteArray)
def aDt:SV->Option InX
 | .agg [.val (.int .i64 a), .val (.int .i64 b), .val (.string c), .val (.string d)]=>some (a,b,c,d)
 |_=>none
def cIn:Cod InX where
 dec:=aDt
 enc x:= .agg [.val (.int .i64 x.1), .val (.int .i64 x.2.1), .val (.string x.2.2.1), .val (.string x.2.2.2)]
 ok s a h:=by
  unfold aDt at h;split at h
  ·simp at h;rw[<-h]
  ·cases h
 ids _:=by simp[SV.ids,SV.idss]
def isF (x:InX):Bool:=bif x.1==0 then rV x.2.2 else bif x.1==1 then(bif decide (x.2.1≥0) then decide (x.2.1<6) else false) else bif x.1==2 then(bif decide (x.2.1≥0) then decide (x.2.1<16) else false) else bif decide (x.1>0) then decide (x.1<10) else false
def isT (x:InX) (Q:zdR):Prop:=ag (x.1==0) (ah (uzR x.2.2) (Q (cB.enc (rV x.2.2)))) (ag (x.1==1) (Q (cB.enc (bif decide (x.2.1≥0) then decide (x.2.1<6) else false))) (ag (x.1==2) (Q (cB.enc (bif decide (x.2.1≥0) then decide (x.2.1<16) else false)))
 (ah (decide (x.1>0)==true) (Unit->True->Q (cB.enc (bif decide (x.1>0) then decide (x.1<10) else false))))))
theorem aEN (d:Ad3) (op n:Int) (v:RS) (Q:zdR):my d qH (azT d) (λ_ _=>none) 4 120 [cIn.enc (op,n,v)] Q=isT (op,n,v) Q:=by kernel_rfl
theorem aCf {x:InX} {Q:zdR} (h0:0<=x.1) (H:uzR x.2.2=true) (k:Q (cB.enc (isF x))):isT x Q:=by
 unfold isF at k;refine bI (λh=>ac H ?_) λh=>bI (λh1=> ?_) λh1=>bI (λh2=> ?_) λh2=>ac ?_ λ_ _=> ?_
 ·rw[h] at k;exact k
 ·rw[h,h1] at k;exact k
 ·rw[h,h1,h2] at k;exact k
 ·have:x.1≠0:=by simpa using h
  have:x.1>0:=by omega
  simp[this]
 ·rw[h,h1,h2] at k;exact k
theorem azy {B:Base} {F:FuncId}:VU Tryz.prog B F (λ_ _ _=>none):=λbl β w nx args C _ _ _ _ e=>by cases e
theorem aDU:GPk qH:=GPk.of (GEk.of Wr)
variable {d:Ad3}
theorem KE:MPk d (azT d):=(((((MPk.of MEk.nil).cons λB hB=>azy).cons λB hB=>aB9 hB).cons λB hB=>azy).cons λB hB=>aCa hB).cons aCX
abbrev kIs:Ctr:=k1 cIn cB (λx=>decide (0<=x.1)&&uzR x.2.2) isF
theorem aDV {W:World} (H:GlobP d W):CtrOK Tryz.prog W 120 kIs:=dD λx h=>by
 rw[za2,zdt] at h;refine gn aDU KE H (ann:=λ_ _=>none) (n:=4) m8 (cB.ids _) ?_;rw[show x=(x.1,x.2.1,x.2.2) from rfl,aEN];exact aCf (Q:=λr=>r=_) h.1 h.2 rfl
def ayx (s:zdG):Int×Int:=bif vS s&&abR s then(ab0 s,0) else(0,30)
def kAt (b:Bool):MCtr:=λ_ _ args=>match args with
 | [.val (.string s)]=>(match b with
   |true=>some {X:=Unit,pre:=decide (s.size<=1000000)&&abR s,spec:=λ_=>True,out:=λ_=> .tup [.val (.int .i64 (ab0 s)), .val .nilIface],ex:=λ_=>⟨(),trivial⟩}
   |false=>some {X:=TypeId×Value,pre:=decide (s.size<=1000000)&& !abR s,spec:=λ_=>True,out:=λx=> .tup [.val (.int .i64 (ab0 s)), .val (.iface x.1 x.2)],ex:=λ_=>⟨(0, .nilIface),trivial⟩})
 |_=>none
theorem aDW {B:Base} (hg:GlobB B) (b:Bool):VU prog B 220 (kAt b):=by
 intro bl β w nx args C N hit a0 Y J hp;unfold kAt at J;split at J
 ·rename_i s;cases b with
  |true=>
   simp only[za1] at J;subst J;simp only[za2] at hp;refine(agA hg bl β w nx _ _ N hit a0 Y rfl hp.1).mono ?_;rintro e w' ⟨x,H,h⟩;have H:abJ s x:=H;unfold abJ at H;rw[hp.2] at H;subst H;exact⟨(),trivial,h⟩
  |false=>
   simp only[za1] at J;subst J;simp only[za2,zap] at hp;refine(agA hg bl β w nx _ _ N hit a0 Y rfl hp.1).mono ?_;rintro e w' ⟨x,H,h⟩;have H:abJ s x:=H;unfold abJ at H;rw[hp.2] at H;obtain⟨t,p,rfl⟩:=H;exact⟨(t,p),trivial,h⟩
 ·cases J
def gTo:List (FuncId×Ctr):= [(221,k1 cS cB uz vS)]
theorem aDu:GPk gTo:=⟨λd W H p hp=>by
 simp only[gTo,zaj] at hp;subst hp
 exact⟨dD λs h β w J=>(qk s w (zdu h)).mono λe w' ⟨h1,h2⟩=>⟨h1,h2⟩,call221⟩⟩
def aDX (b:Bool):zdW:= [(220,kAt b)]
variable {d:Ad3}
theorem aA9 (b:Bool):MPk d (aDX b):=(MPk.of MEk.nil).cons λB hB=>aDW hB.gE.gU b
theorem aDY (d:Ad3) (s:zdG) (K:zdR):my d gTo (aDX true) (λ_ _=>none) 6 128 [cS.enc s] K=ah (decide (s.size<=1000000)&&abR s) (Unit->True->ah (uz s) (ag (bif !vS s then true else !true) (K ((cP cI cI).enc (0,30))) (K ((cP cI cI).enc (ab0 s,0))))):=by kernel_rfl
theorem aDZ (d:Ad3) (s:zdG) (K:zdR):my d gTo (aDX false) (λ_ _=>none) 6 128 [cS.enc s] K=ah (decide (s.size<=1000000)&& !abR s) (TypeId×Value->True->ah (uz s) (ag (bif !vS s then true else true) (K ((cP cI cI).enc (0,30))) (K ((cP cI cI).enc (ab0 s,0))))):=by kernel_rfl
theorem aD0 {W:World} (J:GlobP d W):CtrOK prog W 128 (k1 cS (cP cI cI) (λs=>decide (s.size<=1000000)) ayx):=dD λs h=>by
 have N:uz s=true:=zdp (zac (zdu h) (by decide));cases H:abR s with
 |true=>
  refine gn aDu (aA9 true) J (ann:=λ_ _=>none) (n:=6) m8 ((cP cI cI).ids _) ?_;rw[aDY,h,H,N];unfold ayx;rw[H];refine λ_ _=> ?_;cases Y:vS s with
  |true=>exact rfl
  |false=>exact rfl
 |false=>
  refine gn aDu (aA9 false) J (ann:=λ_ _=>none) (n:=6) m8 ((cP cI cI).ids _) ?_;rw[aDZ,h,H,N];unfold ayx;rw[H];refine λ_ _=> ?_;cases Y:vS s with
  |true=>exact rfl
  |false=>exact rfl
theorem eD (a b:zdG):(a++b).data.toList=a.data.toList++b.data.toList:=by rw[ByteArray.data_append,Array.toList_append]
def wE (x:InX) (r:List UInt8):Bool:=isF x&&(!(x.1==9)||r.isEmpty)
def vB (x:InX) (r:List UInt8):Option (InX×List UInt8):=bif wE x r then some (x,r) else none
def aAS (n:Nat) (r:List UInt8):Option (InX×List UInt8):=bif decide (n<=r.length)&&((DR ⟨(r.take n).toArray⟩).2==0) then vB (0,0,(DR ⟨(r.take n).toArray⟩).1) (r.drop n) else none
def aBz:List UInt8->Option (InX×List UInt8)
 |a::b::r=>aAS (a.toNat*256+b.toNat) r
 |_=>none
def aCi (op:Nat):List UInt8->Option (InX×List UInt8)
 | []=>none
 |n::r=>vB ((op:Int),(n.toNat:Int),noR) r
def vh (op:Nat) (r:List UInt8):Option (InX×List UInt8):=bif op==0 then aBz r else bif op==1||op==2 then aCi op r else vB ((op:Int),0,noR) r
def vC:List UInt8->Option (InX×List UInt8)
 | []=>none
 |b::r=>vh b.toNat r
structure OkI (x:InX):Prop where
 is:isF x=true
 lo:0<=x.1
 hi:x.1<10
 nz:x.1=0->x.2.1=0
 vz:x.1≠0->x.2.2=noR
 nz3:3<=x.1->x.2.1=0
variable {x:InX}
theorem OkI.v (h:OkI x) (e:x.1=0):rV x.2.2=true:=by
 have:=h.is;unfold isF at this;rw[e] at this;exact this
theorem OkI.nu (h:OkI x) (e:x.1=1\/x.1=2):0<=x.2.1/\x.2.1<16:=by
 have:=h.is;unfold isF at this;rcases e with e|e
 ·rw[e] at this;simp at this;omega
 ·rw[e] at this;simp at this;omega
def cn (x:InX):List UInt8:=bif x.1==0 then 0::UInt8.ofNat ((gk x.2.2).size / 256)::UInt8.ofNat (gk x.2.2).size::(gk x.2.2).data.toList else bif x.1==1||x.1==2 then [UInt8.ofNat x.1.toNat,UInt8.ofNat x.2.1.toNat] else [UInt8.ofNat x.1.toNat]
theorem pr (x:InX):0<(cn x).length:=by
 unfold cn;cases x.1==0 with
 |true=>simp
 |false=>cases (x.1==1||x.1==2)<;>simp
variable {r:List UInt8}
theorem ayA {y:InX} {r':List UInt8} (h:vB x r=some (y,r')):y=x/\r'=r/\isF x=true/\(x.1=9->r= []):=by
 unfold vB at h;cases H:wE x r with
 |false=>rw[H] at h;cases h
 |true=>
  rw[H,zdr,za1,zag] at h;unfold wE at H;rw[za2,zav] at H;refine⟨h.1.symm,h.2.symm,H.1,λe=> ?_⟩;rcases H.2 with h2|h2
  ·rw[e] at h2;cases h2
  ·exact List.isEmpty_iff.1 h2
theorem ayk (h:isF x=true) (h9:x.1=9->r= []):vB x r=some (x,r):=by
 unfold vB wE;rw[h];cases e:x.1==9 with
 |false=>rfl
 |true=>rw[h9 (by simpa using e)];rfl
theorem aDv {b:UInt8}:UInt8.ofNat b.toNat=b:=by simp
theorem pw {s:List UInt8} (h:vC s=some (x,r)):OkI x/\s=cn x++r/\(x.1=9->r= []):=by
 cases s with
 |nil=>cases h
 |cons b t=>
  have h:vh b.toNat t=some (x,r):=h;unfold vh at h;cases h0:b.toNat==0 with
  |true=>
   rw[h0,zdr] at h;have h0:b.toNat=0:=by simpa using h0
   have hb:b=0:=by rw[<-aDv (b:=b),h0];rfl
   match t,h with
   |a::c::u,h=>
    simp only[aBz] at h;unfold aAS at h;cases N:(decide (a.toNat*256+c.toNat<=u.length)&&((DR ⟨(u.take (a.toNat*256+c.toNat)).toArray⟩).2==0)) with
    |false=>rw[N] at h;cases h
    |true=>
     rw[N,zdr] at h;rw[za2,zdt,zdx] at N;obtain⟨rfl,rfl,H,h9⟩:=ayA h;obtain⟨e1,e2,e3⟩:=azo N.2;have ha:=a.toNat_lt;have a0:=c.toNat_lt;generalize hn:a.toNat*256+c.toNat=n at*
     have es:(gk (DR ⟨(u.take n).toArray⟩).1)=⟨(u.take n).toArray⟩:=by rw[e1];exact e3
     have ez:(gk (DR ⟨(u.take n).toArray⟩).1).size=n:=by
      rw[es,<-bj];simp[zaE];omega
     refine⟨⟨H,zat _,(by show (0:Int)<10;decide),λ_=>rfl,λe=>absurd rfl e,λe=>absurd (show (3:Int)<=0 from e) (by decide)⟩, ?_,λe=>by cases e⟩;show b::a::c::u=0::UInt8.ofNat ((gk (DR ⟨(u.take n).toArray⟩).1).size / 256)::UInt8.ofNat (gk (DR ⟨(u.take n).toArray⟩).1).size::((gk (DR ⟨(u.take n).toArray⟩).1).data.toList++u.drop n);rw[ez,es,hb];have e4:n / 256=a.toNat:=by omega
     have e5:UInt8.ofNat n=c:=by
      apply UInt8.toNat.inj;rw[UInt8.toNat_ofNat'];omega
     rw[e4,e5,aDv];simp
  |false=>
   rw[h0,zdq] at h;have h0:b.toNat≠0:=by simpa using h0
   cases h1:(b.toNat==1||b.toNat==2) with
   |true=>
    rw[h1,zdr] at h;have h1:b.toNat=1\/b.toNat=2:=by simpa using h1
    match t,h with
    |n::u,h=>
     simp only[aCi] at h;obtain⟨rfl,rfl,H,h9⟩:=ayA h;refine⟨⟨H,Int.natCast_nonneg _,by show ((b.toNat:Nat):Int)<10;omega,λe=>absurd e (by show ((b.toNat:Nat):Int)≠0;omega),λ_=>rfl,λe=>absurd e (by show ¬3<=((b.toNat:Nat):Int);omega)⟩, ?_,h9⟩;unfold cn;have c0:(((b.toNat:Nat):Int)==0)=false:=by rw[zdw];omega
     have J:(((b.toNat:Nat):Int)==1||((b.toNat:Nat):Int)==2)=true:=by
      rcases h1 with h1|h1<;>rw[h1]<;>rfl
     show b::n::r=(bif ((b.toNat:Nat):Int)==0 then _ else bif ((b.toNat:Nat):Int)==1||((b.toNat:Nat):Int)==2 then _ else _)++r;rw[c0,J];simp
   |false=>
    rw[h1,zdq] at h;have h1:b.toNat≠1/\b.toNat≠2:=by simpa using h1
    obtain⟨rfl,rfl,H,h9⟩:=ayA h;have Y:((b.toNat:Nat):Int)<10:=by
     unfold isF at H;have c0:(((b.toNat:Nat):Int)==0)=false:=by rw[zdw];omega
     have J:(((b.toNat:Nat):Int)==1)=false:=by rw[zdw];omega
     have c2:(((b.toNat:Nat):Int)==2)=false:=by rw[zdw];omega
     simp only[c0,J,c2,zdq] at H;have c3:decide (((b.toNat:Nat):Int)>0)=true:=zdp (by omega);rw[c3,zdr,zdt] at H;exact H
    refine⟨⟨H,Int.natCast_nonneg _,Y,λe=>absurd e (by show ((b.toNat:Nat):Int)≠0;omega),λ_=>rfl,λ_=>rfl⟩, ?_,h9⟩;unfold cn;have c0:(((b.toNat:Nat):Int)==0)=false:=by rw[zdw];omega
    have J:(((b.toNat:Nat):Int)==1||((b.toNat:Nat):Int)==2)=false:=by
     rw[zbr,zdw,zdw];omega
    show b::r=(bif ((b.toNat:Nat):Int)==0 then _ else bif ((b.toNat:Nat):Int)==1||((b.toNat:Nat):Int)==2 then _ else [UInt8.ofNat ((b.toNat:Nat):Int).toNat])++r;rw[c0,J];simp
theorem azV {n:Nat} (h:n<256):(UInt8.ofNat n).toNat=n:=by rw[UInt8.toNat_ofNat'];omega
theorem aBA (h:OkI x) (h9:x.1=9->r= []):vC (cn x++r)=some (x,r):=by
 obtain⟨op,n,v⟩:=x;have Y:0<=op:=h.lo;have a0:op<10:=h.hi;by_cases J:op=0
 ·subst J;have H:rV v=true:=h.v rfl;have hz:=iU H;have hn:n=0:=h.nz rfl;subst hn;show vC (0::UInt8.ofNat ((gk v).size / 256)::UInt8.ofNat (gk v).size::((gk v).data.toList++r))=_;show aAS ((UInt8.ofNat ((gk v).size / 256)).toNat*256+(UInt8.ofNat (gk v).size).toNat) _=_;rw[azV (by omega),UInt8.toNat_ofNat',show (gk v).size / 256*256+(gk v).size%2^8=(gk v).size by omega];unfold aAS;have N:(((gk v).data.toList++r).take (gk v).size)=(gk v).data.toList:=by rw[<-bj,List.take_left]
  have e2:(((gk v).data.toList++r).drop (gk v).size)=r:=by rw[<-bj,List.drop_left]
  have e3:decide ((gk v).size<=((gk v).data.toList++r).length)=true:=zdp (by rw[za3,bj];omega);rw[N,e2,e3,aaA,ayd H];exact ayk h.is h9
 ·by_cases N:op=1\/op=2
  ·obtain⟨n0,n1⟩:=h.nu N;have H:v=noR:=h.vz J;subst H;dsimp only at n0 n1;have c0:(op==0)=false:=by rw[zdw];exact J
   have c1:(op==1||op==2)=true:=by rcases N with rfl|rfl<;>rfl
   have ec:cn (op,n,noR)= [UInt8.ofNat op.toNat,UInt8.ofNat n.toNat]:=by unfold cn;simp only[c0,c1,zdq,zdr]
   rw[ec];show vh (UInt8.ofNat op.toNat).toNat (UInt8.ofNat n.toNat::r)=_;rw[azV (by omega)];unfold vh;have d0:(op.toNat==0)=false:=by rw[zdw];omega
   have d1:(op.toNat==1||op.toNat==2)=true:=by rcases N with rfl|rfl<;>rfl
   rw[d0,d1];show vB (((op.toNat:Nat):Int),(((UInt8.ofNat n.toNat).toNat:Nat):Int),noR) r=_;rw[azV (by omega),zcc Y,zcc n0];exact ayk h.is h9
  ·have H:v=noR:=h.vz J;have hn:n=0:=h.nz3 (by show 3<=op;omega);subst H hn;have c0:(op==0)=false:=by rw[zdw];exact J
   have c1:(op==1||op==2)=false:=by rw[zbr,zdw,zdw];omega
   have ec:cn (op,0,noR)= [UInt8.ofNat op.toNat]:=by unfold cn;simp only[c0,c1,zdq]
   rw[ec];show vh (UInt8.ofNat op.toNat).toNat r=_;rw[azV (by omega)];unfold vh;have d0:(op.toNat==0)=false:=by rw[zdw];omega
   have d1:(op.toNat==1||op.toNat==2)=false:=by rw[zbr,zdw,zdw];omega
   rw[d0,d1];show vB (((op.toNat:Nat):Int),0,noR) r=_;rw[zcc Y];exact ayk h.is h9
def K9:List InX->Prop
 | []=>False
 |x::l=>OkI x/\(x.1=9↔l= [])/\(l≠ []->K9 l)
def iI:Nat->List UInt8->Option (List InX)
 |0,_=>none
 |k+1,s=>match vC s with
  |none=>none
  |some (x,r)=>bif x.1==9 then some [x] else(iI k r).map (x:: ·)
theorem azA: ∀{k:Nat} {s:List UInt8} {l:List InX},iI k s=some l->K9 l/\s=l.flatMap cn
 |0,s,l,h=>by cases h
 |k+1,s,l,h=>by
  unfold iI at h;split at h
  ·cases h
  ·rename_i x r hx;obtain⟨J,N,h9⟩:=pw hx;cases H:x.1==9 with
   |true=>
    rw[H,zdr,za1] at h;have H:x.1=9:=by simpa using H
    subst h;refine⟨⟨J,⟨λ_=>rfl,λ_=>H⟩,λe=>absurd rfl e⟩, ?_⟩;rw[N,h9 H];simp
   |false=>
    rw[H,zdq] at h;have H:x.1≠9:=by simpa using H
    cases hi:iI k r with
    |none=>rw[hi] at h;cases h
    |some l'=>
     rw[hi] at h;simp only[zb0,za1] at h;subst h;obtain⟨h1,h2⟩:=azA hi;have Y:l'≠ []:=λe=>by rw[e] at h1;exact h1
     exact⟨⟨J,⟨λe=>absurd e H,λe=>absurd e Y⟩,λ_=>h1⟩,by rw[N,h2];simp⟩
theorem azB: ∀{l:List InX} {k:Nat},K9 l->(l.flatMap cn).length<=k->iI k (l.flatMap cn)=some l
 | [],_,h,_=>h.elim
 |x::l,0,_,J=>by
  have:=pr x;simp only[List.flatMap_cons,za3] at J;omega
 |x::l,k+1,h,J=>by
  obtain⟨Y,h9,hr⟩:=h;have hp:=pr x;simp only[List.flatMap_cons,za3] at J;unfold iI;rw[List.flatMap_cons,aBA Y λe=>by rw[h9.1 e];rfl];show (bif x.1==9 then some [x] else(iI k (l.flatMap cn)).map (x:: ·))=_;cases H:x.1==9 with
  |true=>rw[h9.1 (by simpa using H)];rfl
  |false=>
   have N:l≠ []:=λe=>by rw[h9.2 e] at H;cases H
   rw[zdq,azB (hr N) (by omega)];rfl
def aIH (s:zdG):Option (List InX):=bif decide (s.size<=4096) then iI s.size s.data.toList else none
variable {s:zdG} {l:List InX}
theorem ayB (h:aIH s=some l):K9 l/\s.data.toList=l.flatMap cn/\s.size<=4096:=by
 unfold aIH at h;cases H:decide (s.size<=4096) with
 |false=>rw[H] at h;cases h
 |true=>
  rw[H] at h;obtain⟨h1,h2⟩:=azA h;exact⟨h1,h2,zdu H⟩
theorem aBb (h:K9 l) (H:(l.flatMap cn).length<=4096):aIH ⟨(l.flatMap cn).toArray⟩=some l:=by
 unfold aIH;have e:(⟨(l.flatMap cn).toArray⟩:zdG).size=(l.flatMap cn).length:=by rw[<-bj]
 rw[e,zdp H];exact azB h (za0 _)
def aFz {S:Type} (f:S->InX->Option S):Nat->List UInt8->S->Option S
 |0,_,_=>none
 |k+1,s,z=>match vC s with
  |none=>none
  |some (x,r)=>match f z x with
   |none=>none
   |some H=>bif x.1==9 then some H else aFz f k r H
theorem aAm {S:Type} {f:S->InX->Option S}: ∀{k:Nat} {s:List UInt8} {z:S},aFz f k s z=(iI k s).bind λl=>l.foldlM f z
 |0,s,z=>rfl
 |k+1,s,z=>by
  unfold aFz iI;cases vC s with
  |none=>rfl
  |some p=>
   obtain⟨x,r⟩:=p
   show (match f z x with
    |none=>none
    |some J=>bif x.1==9 then some J else aFz f k r J)=(bif x.1==9 then some [x] else(iI k r).map (x:: ·)).bind λl=>l.foldlM f z
   cases H:f z x with
   |none=>
    cases x.1==9 with
    |true=>simp[H]
    |false=>
     cases iI k r with
     |none=>rfl
     |some l=>simp[H]
   |some J=>
    cases x.1==9 with
    |true=>simp[H]
    |false=>
     show aFz f k r J=_;rw[aAm];cases iI k r with
     |none=>rfl
     |some l=>simp[H]
def gy (x:InX):List UInt8:=(eo x.1.toNat).data.toList++bif x.1==0 then 32::(gk x.2.2).data.toList else bif x.1==1||x.1==2 then 32::(ofI x.2.1).data.toList else []
def eh (x:InX):zdG:=⟨(gy x).toArray⟩
def cu (x:InX):zdG:=⟨(cn x).toArray⟩
def ayl (w:zdG):Int:=bif seq (eo 0) w then 0 else bif seq (eo 1) w then 1 else bif seq (eo 2) w then 2 else bif seq (eo 3) w then 3 else bif seq (eo 4) w then 4 else bif seq (eo 5) w then 5 else bif seq (eo 6) w then 6 else bif seq (eo 7) w then 7 else bif seq (eo 8) w then 8 else bif seq (eo 9) w then 9 else -1
theorem aAT (h:isF x=true):x.1<10:=by
 unfold isF at h;by_cases J:x.1=0
 ·omega
 by_cases N:x.1=1
 ·omega
 by_cases e2:x.1=2
 ·omega
 rw[beq_eq_false_iff_ne.2 J,beq_eq_false_iff_ne.2 N,beq_eq_false_iff_ne.2 e2] at h;simp only[zdq] at h;cases H:decide (x.1>0) with
 |false=>rw[H] at h;cases h
 |true=>rw[H,zdr,zdt] at h;exact h
theorem eI (l:List UInt8):(⟨l.toArray⟩:zdG).data.toList=l:=by simp
theorem ayR {t:zdG}:seq t ⟨#[]⟩=true↔t=⟨#[]⟩:=by
 rw[F3,zdx,cL,cL];exact⟨λh=>gT h,λh=>by rw[h]⟩
def ayC (d n op:Int):Int:=bif (op==8)||(decide (d<gi op.toNat)||(decide (d - gi op.toNat+lj op.toNat>16)||((op==2)&&decide (d<=n.tmod 3)))) then(bif d==16 then 4 else 1) else op
def ayD (n op:Int):InX:=bif op==0 then(0,0,(rMk (n - 20) (1+n.tmod 4)).1) else bif op==1||op==2 then(op,n.tmod 3,noR) else(op,0,noR)
def mdX (d:Int) (p:Int×Int):InX:=ayD (co p.2 60) (ayC d (co p.2 60) (co p.1 9))
def mdD (d:Int) (x:InX):Int:=d - gi x.1.toNat+lj x.1.toNat
def mdL:List (Int×Int)->Int->List InX×Int
 | [],d=>([],d)
 |p::l,d=>(mdX d p::(mdL l (mdD d (mdX d p))).1,(mdL l (mdD d (mdX d p))).2)
def aAX:Nat->List InX
 |0=> []
 |n+1=>(4,0,noR)::aAX n
def aCl (d:Int):List InX:=bif d==0 then [(1,0,noR),(9,0,noR)] else aAX (d - 1).toNat++ [(9,0,noR)]
def mdA (x:List (Int×Int)):List InX:=(mdL (x.take 30) 0).1++aCl (mdL (x.take 30) 0).2
def mdF (x:List (Int×Int)):zdG:=⟨((mdA x).flatMap cn).toArray⟩
theorem aCm: ∀i:Fin 10,0<=gi i/\gi i<=2/\0<=lj i/\lj i<=2:=by decide+kernel
theorem aAq: ∀n:Fin 60,rV (rMk ((n:Int) - 20) (1+((n:Int)).tmod 4)).1=true/\(gk (rMk ((n:Int) - 20) (1+((n:Int)).tmod 4)).1).size<=10:=by decide+kernel
structure MdOK (d:Int) (x:InX):Prop where
 ok:OkI x
 ne:x.1≠9
 n8:x.1≠8
 tk:gi x.1.toNat<=d
 dup:x.1=2->x.2.1<d
 lo:0<=mdD d x
 hi:mdD d x<=16
 sz:(cn x).length<=13
variable {n:Int}
theorem aDw (h:0<=n):0<=n.tmod 3/\n.tmod 3<3:=by
 rw[Int.tmod_eq_emod_of_nonneg h];omega
theorem aD2 (n op:Int):(ayD n op).1=op\/op=0/\(ayD n op).1=0:=by
 unfold ayD;cases h0:op==0 with
 |true=>exact .inr ⟨by simpa using h0,rfl⟩
 |false=>cases (op==1||op==2)<;>exact .inl rfl
theorem aFm (n op:Int):(ayD n op).1=op:=by
 rcases aD2 n op with h|⟨h1,h2⟩
 ·exact h
 ·rw[h2,h1]
theorem aD3 (n:Int):(ayD n 2).2.1=n.tmod 3:=rfl
variable {op:Int}
theorem aC1 (H:0<=n/\n<60) (N:0<=op/\op<8):OkI (ayD n op)/\(cn (ayD n op)).length<=13:=by
 have J:=aDw H.1;have key: ∀m:Int,(m=0\/m=1\/m=2\/m=3\/m=4\/m=5\/m=6\/m=7)->OkI (ayD n m)/\(cn (ayD n m)).length<=13:=by
  rintro m (rfl|rfl|rfl|rfl|rfl|rfl|rfl|rfl)
  ·obtain⟨h1,h2⟩:=aAq ⟨n.toNat,by omega⟩;have e:((n.toNat:Nat):Int)=n:=zcc H.1;dsimp only at h1 h2;rw[e] at h1 h2;refine⟨⟨h1,(by rw[aFm];decide),(by rw[aFm];decide),λ_=>rfl,λe=>absurd rfl e,λe=>absurd e (by rw[aFm];decide)⟩, ?_⟩;show (0::_::_::(gk _).data.toList).length<=13;simp only[za4,bj];exact Nat.add_le_add_right h2 3
  ·refine⟨⟨?_,(by rw[aFm];decide),(by rw[aFm];decide),λe=>absurd e (by rw[aFm];decide),λ_=>rfl,λe=>absurd e (by rw[aFm];decide)⟩,(by show 2<=13;decide)⟩;show (bif decide (n.tmod 3≥0) then decide (n.tmod 3<6) else false)=true;rw[zdp J.1,zdp (by omega)];rfl
  ·refine⟨⟨?_,(by rw[aFm];decide),(by rw[aFm];decide),λe=>absurd e (by rw[aFm];decide),λ_=>rfl,λe=>absurd e (by rw[aFm];decide)⟩,(by show 2<=13;decide)⟩;show (bif decide (n.tmod 3≥0) then decide (n.tmod 3<16) else false)=true;rw[zdp J.1,zdp (by omega)];rfl
  all_goals exact⟨⟨by rfl,(by rw[aFm];decide),(by rw[aFm];decide),λe=>absurd e (by rw[aFm];decide),λ_=>rfl,λ_=>rfl⟩,(by show 1<=13;decide)⟩
 exact key op (by omega)
variable {d:Int}
theorem aBe (N:0<=d/\d<=16) (Y:0<=op/\op<9):0<=ayC d n op/\ayC d n op<8/\gi (ayC d n op).toNat<=d/\d - gi (ayC d n op).toNat+lj (ayC d n op).toNat<=16/\(ayC d n op=2->n.tmod 3<d):=by
 unfold ayC;cases J:((op==8)||(decide (d<gi op.toNat)||(decide (d - gi op.toNat+lj op.toNat>16)||((op==2)&&decide (d<=n.tmod 3))))) with
 |true=>
  rw[zdr];cases H:d==16 with
  |true=>
   have H:d=16:=by simpa using H
   subst H;exact⟨by decide,by decide,by decide,by decide,λe=>absurd e (by decide)⟩
  |false=>
   have H:d≠16:=by simpa using H
   refine⟨by decide,by decide,N.1, ?_,λe=>absurd e (by decide)⟩;show d - 0+1<=16;omega
 |false=>
  rw[zdq];simp only[zbr,zdy,zdw,Bool.and_eq_false_iff] at J;obtain⟨h1,h2,h3,h4⟩:=J;refine⟨Y.1,by omega,by omega,by omega,λe=> ?_⟩;rcases h4 with h4|h4
  ·exact absurd e h4
  ·omega
theorem aCn (H:0<=d/\d<=16) (p:Int×Int):MdOK d (mdX d p):=by
 have J:=gR p.2 (show (0:Int)<60 by decide);have N:=gR p.1 (show (0:Int)<9 by decide);unfold mdX;generalize co p.2 60=n at*
 generalize co p.1 9=op at*
 obtain⟨k1,k2,k3,Y,k5⟩:=aBe (n:=n) H N;generalize ayC d n op=o at*
 obtain⟨h1,h2⟩:=aC1 J ⟨k1,k2⟩;have e:=aFm n o;obtain⟨t1,t2,t3,t4⟩:=aCm ⟨o.toNat,by omega⟩;dsimp only at t1 t2 t3 t4;refine⟨h1,by rw[e];omega,by rw[e];omega,by rw[e];exact k3,λh=> ?_, ?_, ?_,h2⟩
 ·rw[e] at h;subst h;rw[aD3];exact k5 rfl
 ·unfold mdD;rw[e];omega
 ·unfold mdD;rw[e];exact Y
theorem aFx: ∀{l:List (Int×Int)} {d:Int},0<=d/\d<=16->(∀x∈(mdL l d).1,OkI x/\x.1≠9)/\0<=(mdL l d).2/\(mdL l d).2<=16/\((mdL l d).1.flatMap cn).length<=13*l.length
 | [],d,h=>⟨λx H=>(by cases H),h.1,h.2,za0 _⟩
 |p::l,d,h=>by
  have k:=aCn h p;obtain⟨h1,h2,h3,h4⟩:=aFx (l:=l) ⟨k.lo,k.hi⟩;refine⟨λx H=> ?_,h2,h3, ?_⟩
  ·rcases zai.1 H with rfl|H
   ·exact⟨k.ok,k.ne⟩
   ·exact h1 x H
  ·show ((mdX d p::(mdL l (mdD d (mdX d p))).1).flatMap cn).length<=13*(l.length+1);rw[List.flatMap_cons,za3];have:=k.sz;omega
theorem azg: ∀{l m:List InX},(∀x∈l,OkI x/\x.1≠9)->K9 m->K9 (l++m)
 | [],m,_,H=>H
 |x::l,m,h,H=>by
  have J:l++m≠ []:=λe=>by rw[(zd5.1 e).2] at H;exact H
  exact⟨(h x (by simp)).1,⟨λe=>absurd e (h x (by simp)).2,λe=>absurd e J⟩,λ_=>azg (λy N=>h y (zan _ N)) H⟩
theorem aEO:OkI (9,0,noR):=⟨by rfl,by decide,by decide,λe=>absurd e (by decide),λ_=>rfl,λ_=>rfl⟩
theorem aEP:OkI (4,0,noR):=⟨by rfl,by decide,by decide,λe=>absurd e (by decide),λ_=>rfl,λ_=>rfl⟩
theorem aEQ:OkI (1,0,noR):=⟨by rfl,by decide,by decide,λe=>absurd e (by decide),λ_=>rfl,λe=>absurd e (by decide)⟩
theorem aAr:K9 [(9,0,noR)]:=⟨aEO,⟨λ_=>rfl,λ_=>rfl⟩,λe=>absurd rfl e⟩
theorem aAs: ∀{n:Nat},(∀x∈aAX n,OkI x/\x.1≠9)/\((aAX n).flatMap cn).length=n
 |0=>⟨λx H=>(by cases H),rfl⟩
 |n+1=>by
  obtain⟨h1,h2⟩:=aAs (n:=n);refine⟨λx H=> ?_, ?_⟩
  ·rcases zai.1 H with rfl|H
   ·exact⟨aEP,by decide⟩
   ·exact h1 x H
  ·show (((4,0,noR)::aAX n).flatMap cn).length=n+1;rw[List.flatMap_cons,za3,h2];show 1+n=n+1;omega
theorem aC2 (h:0<=d/\d<=16):K9 (aCl d)/\((aCl d).flatMap cn).length<=20:=by
 unfold aCl;cases h0:d==0 with
 |true=>exact⟨⟨aEQ,⟨λe=>absurd e (by decide),λe=>by cases e⟩,λ_=>aAr⟩,(by show 3<=20;decide)⟩
 |false=>
  obtain⟨h1,h2⟩:=aAs (n:=(d - 1).toNat);refine⟨azg h1 aAr, ?_⟩;rw[zdq,zd4,za3,h2];show (d - 1).toNat+1<=20;omega
theorem aAY (x:List (Int×Int)):K9 (mdA x)/\((mdA x).flatMap cn).length<=420:=by
 obtain⟨h1,h2,h3,h4⟩:=aFx (l:=x.take 30) (d:=0) ⟨by decide,by decide⟩;obtain⟨k1,k2⟩:=aC2 ⟨h2,h3⟩;refine⟨azg h1 k1, ?_⟩;unfold mdA;rw[zd4,za3];have:(x.take 30).length<=30:=by rw[zaE];omega
 omega
def aCo (z:Int×Int) (x:InX):Option (Int×Int):=bif (bif decide (z.2≥gi x.1.toNat) then(bif x.1 !=2 then true else decide (z.2>x.2.1)) else false) then some (if z.2+(lj x.1.toNat - gi x.1.toNat)>z.1 then z.2+(lj x.1.toNat - gi x.1.toNat) else z.1,z.2+(lj x.1.toNat - gi x.1.toNat)) else none
def aC5 (z:Int×Int):Int×Int:=bif (bif z.2==1 then decide (z.1<=16) else false) then(z.1,0) else(0,110)
def ayE (s:zdG):Int×Int:=match aIH s with
 |none=>(0,110)
 |some l=>(match l.foldlM aCo (0,0) with
  |none=>(0,110)
  |some z=>aC5 z)
def goI {S:Type} (f:S->InX->Option S) (s:zdG) (z:S):Option S:=aFz f s.size s.data.toList z
theorem aya {S:Type} {f:S->InX->Option S}: ∀{k m:Nat} {s:List UInt8} {z:S},s.length<=k->s.length<=m->aFz f k s z=aFz f m s z
 |0,0,_,_,_,_=>rfl
 |0,m+1,s,z,h,_=>by
  have:s= []:=zau (by omega);subst this;rfl
 |k+1,0,s,z,_,h=>by
  have:s= []:=zau (by omega);subst this;rfl
 |k+1,m+1,s,z,h1,h2=>by
  unfold aFz;cases hi:vC s with
  |none=>rfl
  |some p=>
   obtain⟨x,r⟩:=p;dsimp only;have H:=(pw hi).2.1;have J:=pr x;rw[H,za3] at h1 h2;cases f z x with
   |none=>rfl
   |some N=>dsimp only;rw[aya (k:=k) (m:=m) (by omega) (by omega)]
variable {S:Type}
theorem ayn {f:S->InX->Option S} {z:S}:goI f s z=match vC s.data.toList with
 |none=>none
 |some (x,r)=>match f z x with
  |none=>none
  |some H=>bif x.1==9 then some H else goI f ⟨r.toArray⟩ H:=by
 unfold goI;rw[aya (k:=s.size) (m:=s.size+1) (by rw[bj];exact za0 _) (by rw[bj];omega)];rw[aFz];cases hi:vC s.data.toList with
 |none=>rfl
 |some p=>
  obtain⟨x,r⟩:=p;dsimp only;cases f z x with
  |none=>rfl
  |some H=>
   dsimp only;have N:=(pw hi).2.1;have J:=congrArg List.length N;rw[za3,bj] at J;rw[aya (k:=s.size) (m:=(⟨r.toArray⟩:zdG).size) (by omega) (by rw[<-bj,eI];exact za0 _)]
theorem aBf {f:S->InX->Option S} {z:S} (h:s.size<=4096):goI f s z=(aIH s).bind λl=>l.foldlM f z:=by
 unfold goI aIH;rw[aAm,zdp h];rfl
def aER:Option (Int×Int)->Int×Int
 |none=>(0,110)
 |some z=>aC5 z
theorem aC6 (h:s.size<=4096):ayE s=aER (goI aCo s (0,0)):=by
 unfold ayE;rw[aBf h];cases aIH s with
 |none=>rfl
 |some l=>rfl
theorem aBF (h: ¬s.size<=4096):ayE s=(0,110):=by
 unfold ayE aIH;rw[zds h];rfl
def U11 (K:Prop):Prop:=Unit->True->K
def azn (d:Ad3) (K:Prop):Prop:=ah (decide (d.p=d.p)&&true&&true) K
def ayb (x:InX) (r:zdG) (K:InX->ByteArray->Prop) (E:Prop):Prop:=ah (decide (0<=x.1)&&uzR x.2.2) (ag (isF x) (U11 (ag (x.1==9) (ag (seq r ⟨#[]⟩) (U11 (K x r)) (U11 E)) (K x r))) (U11 E))
def aA0 (H J N q4:Nat) (s:zdG) (K:InX->ByteArray->Prop) (E:Prop):Prop:=
 aza s 1 (λp r=>aBx p H λop=>ag (op==0)
  (aza r 2 (λp r=>aBx p J λn=>aza r n (λt r=>ah (decide (t.size<=100000)) (ag ((DR t).2==0) (U11 (ayb (op,0,(DR t).1) r K E)) (U11 E))) E) E)
  (ag (op==1)
    (ag (op==1) (aza r 1 (λp r=>aBx p N λn=>ayb (op,n,noR) r K E) E) (ayb (op,0,noR) r K E))
    (ag (op==2) (aza r 1 (λp r=>aBx p q4 λn=>ayb (op,n,noR) r K E) E) (ayb (op,0,noR) r K E)))) E
variable {s:zdG} {n:Int} {E:Prop}
theorem vI {K:ByteArray->ByteArray->Prop} (h0:0<=n) (h:n<=s.size->K (s.extract 0 n.toNat) (s.extract n.toNat s.size)) (e: ¬n<=s.size->E):aza s n K E:=
 bI (λH=>λ_ _=>by
  have H:=zdu H
  exact ac (by rw[zdp h0,zdp H];rfl) (ac (by rw[zdp h0,zdp H];rfl) (h H))) λH _ _=>e (zdv H)
theorem ayS (s:zdG) (n:Nat):(s.extract 0 n).data.toList=s.data.toList.take n:=by
 rw[zdk];simp
theorem ayT (s:zdG) (n:Nat):(s.extract n s.size).data.toList=s.data.toList.drop n:=by
 rw[zdk];simp;rw[zaI (by simp)]
variable {p:zdG} {i:Nat} {b:UInt8}
theorem ayo (h:p.data.toList[i]? =some b):F6 p i=(b.toNat:Int):=by
 unfold F6;rw[h]
theorem aAv (h:p.data.toList= [b]):p.size=1/\ay9 p p.size=(b.toNat:Int):=by
 have H:p.size=1:=by rw[<-bj,h];rfl
 refine⟨H, ?_⟩;rw[H];show ((((0:Int)*256).toNat|||(F6 p 0).toNat:Nat):Int)=_;rw[ayo (b:=b) (by rw[h];rfl)];simp
theorem aCp {a:UInt8} (h:p.data.toList= [a,b]):p.size=2/\ay9 p p.size=((a.toNat*256+b.toNat:Nat):Int):=by
 have H:p.size=2:=by rw[<-bj,h];rfl
 refine⟨H, ?_⟩;rw[H];show (((((((0:Int)*256).toNat|||(F6 p 0).toNat:Nat):Int)*256).toNat|||(F6 p 1).toNat:Nat):Int)=_;rw[ayo (b:=a) (by rw[h];rfl),ayo (b:=b) (by rw[h];rfl)];have J:((((0:Int)*256).toNat|||((a.toNat:Nat):Int).toNat:Nat):Int)=((a.toNat:Nat):Int):=by simp
 rw[J];have e2:(((a.toNat:Nat):Int)*256).toNat=2^8*a.toNat:=by omega
 rw[e2,zd2,<-Nat.two_pow_add_eq_or_of_lt (i:=8) b.toNat_lt];omega
variable {x:InX}
theorem ayF {r:zdG} {K:InX->ByteArray->Prop} (h0:0<=x.1) (Y:uzR x.2.2=true) (h: ∀y t,vB x r.data.toList=some (y,t)->K y ⟨t.toArray⟩) (e:vB x r.data.toList=none->E):ayb x r K E:=by
 have N:(seq r ⟨#[]⟩)=r.data.toList.isEmpty:=by
  cases J:r.data.toList with
  |nil=>exact ayR.2 (gT J)
  |cons a t=>cases hq:seq r ⟨#[]⟩ with
   |false=>rfl
   |true=>rw[ayR.1 hq] at J;cases J
 have yes: ∀H:wE x r.data.toList=true,K x r:=λH=>by
  have:=h x r.data.toList (by unfold vB;rw[H];rfl);rwa[aaA] at this
 have no: ∀H:wE x r.data.toList=false,E:=λH=>e (by unfold vB;rw[H];rfl);refine ac (by rw[zdp h0,Y];rfl) (bI (λh1=>λ_ _=>bI (λh2=>bI (λh3=>λ_ _=>yes ?_) λh3=>λ_ _=>no ?_) λh2=>yes ?_) λh1=>λ_ _=>no ?_)
 ·unfold wE;rw[h1,<-N,h3];simp
 ·unfold wE;rw[h1,h2,<-N,h3];rfl
 ·unfold wE;rw[h1,h2];rfl
 ·unfold wE;rw[h1];rfl
theorem azF {t:zdG}:uzR (DR t).1=true:=by
 unfold DR;split
 ·rename_i h;rw[za2] at h;exact Ie h.1
 ·exact tF
theorem azG {q1 q2 q3 q4:Nat} {K:InX->ByteArray->Prop} (hs:s.size<=4096) (h: ∀x t,vC s.data.toList=some (x,t)->K x ⟨t.toArray⟩) (e:vC s.data.toList=none->E):aA0 q1 q2 q3 q4 s K E:=by
 refine vI (by decide) (λh1=> ?_) λh1=>e ?_
 case refine_2=>
  have:s.data.toList= []:=zau (by rw[bj];omega);rw[this];rfl
 cases hl:s.data.toList with
 |nil=>
  have h0:s.size=0:=by rw[<-bj,hl];rfl
  omega
 |cons b t=>
 have el:vC s.data.toList=vh b.toNat t:=by rw[hl];rfl
 rw[el] at h e;have p1:(s.extract 0 (1:Int).toNat).data.toList= [b]:=by rw[ayS,hl];rfl
 have H:(s.extract (1:Int).toNat s.size).data.toList=t:=by rw[ayT,hl];rfl
 generalize s.extract 0 (1:Int).toNat=p at p1;have hz:(s.extract (1:Int).toNat s.size).size<=4096:=by rw[ByteArray.size_extract];omega
 generalize s.extract (1:Int).toNat s.size=r at H hz;obtain⟨n1,n2⟩:=aAv p1;refine azU (by omega) ?_;rw[n2];have nx: ∀q:Nat,(b.toNat==0)=false->(b.toNat==1||b.toNat==2)=true->aza r 1 (λp r=>aBx p q λn=>ayb (((b.toNat:Nat):Int),n,noR) r K E) E:=λq h0 h1=>by
  have Y:vh b.toNat t=aCi b.toNat t:=by unfold vh;rw[h0,h1];rfl
  rw[Y] at h e;refine vI (by decide) (λh2=> ?_) λh2=>e ?_
  ·cases ht:t with
   |nil=>
    have h0:r.size=0:=by rw[<-bj,H,ht];rfl
    omega
   |cons c u=>
    rw[ht] at H h e;have p2:(r.extract 0 (1:Int).toNat).data.toList= [c]:=by rw[ayS,H];rfl
    have J:(r.extract (1:Int).toNat r.size).data.toList=u:=by rw[ayT,H];rfl
    generalize r.extract 0 (1:Int).toNat=p' at p2;generalize r.extract (1:Int).toNat r.size=r' at J;obtain⟨m1,m2⟩:=aAv p2;refine azU (by omega) ?_;rw[m2];exact ayF (Int.natCast_nonneg _) tF (by rw[J];exact h) (by rw[J];exact e)
  ·have:t= []:=by rw[<-H];exact zau (by rw[bj];omega)
   rw[this];rfl
 refine bI (λh0=> ?_) λh0=>bI (λh1=>bI (λN=> ?_) λN=> ?_) λh1=>bI (λh2=> ?_) λh2=> ?_
 ·have h0:b.toNat=0:=by simpa using h0
  have Y:vh b.toNat t=aBz t:=by unfold vh;rw[h0];rfl
  rw[Y] at h e;refine vI (by decide) (λh2=> ?_) λh2=>e ?_
  ·match ht:t with
   | []=>
     have h0:r.size=0:=by rw[<-bj,H];rfl
     omega
   | [a]=>
     have h0:r.size=1:=by rw[<-bj,H];rfl
     omega
   |a::c::u=>
    have p2:(r.extract 0 (2:Int).toNat).data.toList= [a,c]:=by rw[ayS,H];rfl
    have J:(r.extract (2:Int).toNat r.size).data.toList=u:=by rw[ayT,H];rfl
    have a0:(r.extract (2:Int).toNat r.size).size<=4096:=by rw[ByteArray.size_extract];omega
    generalize r.extract 0 (2:Int).toNat=p' at p2;generalize r.extract (2:Int).toNat r.size=r' at J a0;obtain⟨m1,m2⟩:=aCp p2;refine azU (by omega) ?_;rw[m2];simp only[aBz] at h e;unfold aAS at h e;generalize a.toNat*256+c.toNat=m at h e;have hu:u.length=r'.size:=by rw[<-J,bj]
    refine vI (Int.natCast_nonneg _) (λh3=> ?_) λh3=>e ?_
    ·have et:r'.extract 0 ((m:Nat):Int).toNat=⟨(u.take m).toArray⟩:=gT (by rw[ayS,J,eI,zd2]);have er:(r'.extract ((m:Nat):Int).toNat r'.size).data.toList=u.drop m:=by rw[ayT,J,zd2]
     rw[et];have hc:decide (m<=u.length)=true:=zdp (by omega);rw[hc] at h e;refine ac (zdp ?_) (bI (λh4=>λ_ _=> ?_) λh4=>λ_ _=>e ?_)
     ·rw[<-et,ByteArray.size_extract];omega
     ·rw[h4] at h e;rw[h0];exact ayF (zat _) azF (by rw[er];exact h) (by rw[er];exact e)
     ·rw[h4];rfl
    ·have hc:decide (m<=u.length)=false:=zds (by omega);rw[hc];rfl
  ·match ht:t with
   | []=>rfl
   | [a]=>rfl
   |a::c::u=>
    exfalso;have h0:r.size=u.length+2:=by rw[<-bj,H];rfl
    omega
 ·refine nx _ ?_ ?_
  ·have h1:b.toNat=1:=by
    have h1:((b.toNat:Nat):Int)=1:=by simpa using h1
    omega
   rw[h1];rfl
  ·have h1:b.toNat=1:=by
    have h1:((b.toNat:Nat):Int)=1:=by simpa using h1
    omega
   rw[h1];rfl
 ·rw[h1] at N;cases N
 ·refine nx _ ?_ ?_
  ·have h2:b.toNat=2:=by
    have h2:((b.toNat:Nat):Int)=2:=by simpa using h2
    omega
   rw[h2];rfl
  ·have h2:b.toNat=2:=by
    have h2:((b.toNat:Nat):Int)=2:=by simpa using h2
    omega
   rw[h2];rfl
 ·have Y:vh b.toNat t=vB (((b.toNat:Nat):Int),0,noR) t:=by
   have g0:b.toNat≠0:=by simpa using h0
   have g1:b.toNat≠1:=by
    intro q;rw[q] at h1;cases h1
   have g2:b.toNat≠2:=by
    intro q;rw[q] at h2;cases h2
   unfold vh;rw[beq_eq_false_iff_ne.2 g0,beq_eq_false_iff_ne.2 g1,beq_eq_false_iff_ne.2 g2];rfl
  rw[Y] at h e;exact ayF (Int.natCast_nonneg _) tF (by rw[H];exact h) (by rw[H];exact e)
theorem azH {t:List UInt8} (h:vC s.data.toList=some (x,t)):OkI x/\(⟨t.toArray⟩:zdG).size+(cn x).length=s.size/\0<(cn x).length:=by
 obtain⟨h1,h2,_⟩:=pw h;refine⟨h1, ?_,pr x⟩;have:=congrArg List.length h2;rw[bj,za3] at this;rw[<-bj,eI];omega
abbrev VX:=ByteArray×Bool×Int×Int
def aES (f:FuncId) (R:zdV):zdV:=λg k=>bif Nat.beq g f&&Nat.beq k 4294967293 then some (λ_=>{X:=Unit,inv:=λ_=>True,tm:=λ_=> [],mu:=λ_=>0}) else R g k
def aD5 (I:VX->Prop):zdV:=aES 51 λf k=>bif Nat.beq f 116&&Nat.beq k 3 then some (λ_=>{X:=VX,inv:=I,tm:=λx=> [(4, .val (.bool x.2.1))],bk:= [(23,λx _=> [.val (.string x.1)]),(8,λx _=> [.val (.int .i64 x.2.2.1)]),(9,λx _=> [.val (.int .i64 x.2.2.2)])],mu:=λx=>x.1.size,keep:= [0,1,3],clean:=by intro p hp x e;simp at hp;rcases hp with rfl|rfl|rfl<;>rfl}) else aDs f k
def gIs:List (FuncId×Ctr):=(120,kIs)::qH
def aET (e:Bool) (s:zdG) (m k:Int) (x:VX):Prop:=(TV.v (.val (.bool e))=TV.v (.val (.bool x.2.1))/\TV.v (.yl 17)=TV.v (.yl 17)/\TV.v (.ptr 12 0 0)=TV.v (.ptr 12 0 0)/\TV.v (.ptr 23 0 0)=TV.v (.ptr 23 0 0)/\True)/\
 ((([SV.val (.string s)]= [SV.val (.string x.1)]/\True)/\(([SV.val (.int .i64 m)]= [SV.val (.int .i64 x.2.2.1)]/\True)/\(([SV.val (.int .i64 k)]= [SV.val (.int .i64 x.2.2.2)]/\True)/\True)))/\(True/\True))
def aBG (x:InX):Int:=lj (0+x.1.toNat) - gi (0+x.1.toNat)
def aC8 (I:VX->Prop) (z:VX) (x:InX) (r:zdG) (E:Prop):Prop:=U11 (ah (decide (0<=x.1)&&decide (x.1<10)) (ah (decide (0+x.1.toNat<10))
 (ag (bif decide (z.2.2.2≥gi (0+x.1.toNat)) then(bif x.1 !=2 then true else decide (z.2.2.2>x.2.1)) else false)
   (U11 (ah (inR .i64 (aBG x)) (ah (inR .i64 (z.2.2.2+aBG x)) (∃H:VX,I H/\(H.1.size<z.1.size/\aET (x.1==9) r (if z.2.2.2+aBG x>z.2.2.1 then z.2.2.2+aBG x else z.2.2.1) (z.2.2.2+aBG x) H)))))
   (U11 E))))
def aEU (d:Ad3) (I:VX->Prop) (s:zdG) (K:zdR):Prop:=
 ag (decide ((s.size:Int)<=4096)) (U11 (∃H:VX,I H/\(aET false s 0 0 H/\ ∀z:VX,I z->
  ag (!z.2.1) (aA0 59 104 105 107 z.1 (λx r=>aC8 I z x r (azn d (K ((cP cI cI).enc (0,110))))) (azn d (K ((cP cI cI).enc (0,110)))))
   (ag (bif z.2.2.2==1 then decide (z.2.2.1<=16) else false) (U11 (K ((cP cI cI).enc (z.2.2.1,0)))) (U11 (azn d (K ((cP cI cI).enc (0,110)))))))))
  (U11 (azn d (K ((cP cI cI).enc (0,110)))))
theorem aD6 (d:Ad3) (I:VX->Prop) (s:zdG) (K:zdR):my d gIs (azT d) (aD5 I) 12 17 [.val (.string s)] K=aEU d I s K:=by kernel_rfl
structure VI (s:ByteArray) (z:VX):Prop where
 go:z.2.1=false->aER (goI aCo z.1 (z.2.2.1,z.2.2.2))=ayE s
 en:z.2.1=true->aC5 (z.2.2.1,z.2.2.2)=ayE s
 lo:0<=z.2.2.2
 hi:z.2.2.2+z.1.size<=4096
 m0:0<=z.2.2.1
 m1:z.2.2.1<=4096
theorem azY:gi i<=2/\0<=gi i:=by
 unfold gi;split<;>decide
theorem azZ (h:i<10):lj i - gi i<=1/\0<=lj i:=by
 have: ∀i:Fin 10,lj i - gi i<=1/\0<=lj i:=by decide+kernel
 exact this ⟨i,h⟩
variable {d:Ad3}
theorem aBg {K:Prop} (k:K):azn d K:=ac (by simp) k
theorem ej {x:Int} (h0: -1000000000<=x) (h1:x<=1000000000):inR .i64 x=true:=Wl.2 ⟨by show (-9223372036854775808:Int)<=_;omega,by show _<=(9223372036854775807:Int);omega⟩
variable {K:zdR}
theorem aBH (k:K ((cP cI cI).enc (ayE s))):aEU d (VI s) s K:=by
 have kb: ∀e:(0,110)=ayE s,azn d (K ((cP cI cI).enc (0,110))):=λe=>aBg (by rw[e];exact k);refine bI (λY=>λ_ _=> ?_) λY=>λ_ _=>kb (aBF (λe=>by rw[zdp (by omega)] at Y;cases Y)).symm;have Y:=zdu Y;have h0:VI s (s,false,0,0):=⟨λ_=>(aC6 (s:=s) (by omega)).symm,λe=>(by cases e),zat _,by show (0:Int)+s.size<=4096;omega,zat _,(by show (0:Int)<=4096;decide)⟩;refine⟨(s,false,0,0),h0,⟨⟨rfl,rfl,rfl,rfl,trivial⟩,⟨⟨rfl,trivial⟩,⟨rfl,trivial⟩,⟨rfl,trivial⟩,trivial⟩,trivial,trivial⟩, ?_⟩;rintro⟨q,e,m,p⟩ ⟨go,en,lo,hi,m0,m1⟩;dsimp only at go en lo hi m0 m1 ⊢;refine bI (λJ=> ?_) λJ=> ?_
 ·have J:e=false:=by simpa using J
  have go:=go J;refine azG (by omega) (λx t hx=> ?_) λhx=>kb ?_
  ·obtain⟨N,hz,hp⟩:=azH hx;rw[ayn,hx] at go;dsimp only at go;have e0:=N.lo;have a0:=N.hi;obtain⟨t1,t0⟩:=azY (i:=x.1.toNat);obtain⟨p1,p0⟩:=azZ (i:=x.1.toNat) (by omega);refine λ_ _=>ac (by rw[zdp e0,zdp a0];rfl) (ac (zdp (by omega)) (bI (λH=>λ_ _=> ?_) λH=>λ_ _=>kb ?_))
   ·unfold aBG;simp only[za7] at H ⊢;unfold aCo at go;dsimp only at go;rw[H,zdr] at go;dsimp only at go;refine ac (ej (by omega) (by omega)) (ac (ej (by omega) (by omega)) ?_);have hd:decide (p≥gi x.1.toNat)=true:=by
     cases hd:decide (p≥gi x.1.toNat) with
     |true=>rfl
     |false=>rw[hd] at H;cases H
    have hd:=zdu hd;refine⟨(⟨t.toArray⟩,x.1==9,if p+(lj x.1.toNat - gi x.1.toNat)>m then p+(lj x.1.toNat - gi x.1.toNat) else m,p+(lj x.1.toNat - gi x.1.toNat)),⟨λh9=> ?_,λh9=> ?_, ?_, ?_, ?_, ?_⟩,by show (⟨t.toArray⟩:zdG).size<q.size;omega,⟨⟨rfl,rfl,rfl,rfl,trivial⟩,⟨⟨rfl,trivial⟩,⟨rfl,trivial⟩,⟨rfl,trivial⟩,trivial⟩,trivial,trivial⟩⟩
    ·dsimp only at h9 ⊢;rw[h9,zdq] at go;exact go
    ·dsimp only at h9 ⊢;rw[h9,zdr] at go;exact go
    ·dsimp only;omega
    ·dsimp only;omega
    ·dsimp only;split<;>omega
    ·dsimp only;split<;>omega
   ·simp only[za7] at H;unfold aCo at go;dsimp only at go;rw[H] at go;exact go
  ·rw[ayn,hx] at go;exact go
 ·have J:e=true:=by simpa using J
  have en:=en J;unfold aC5 at en;refine bI (λH=>λ_ _=> ?_) λH=>λ_ _=>kb ?_
  ·dsimp only at en H;rw[H] at en;rw[show (m,(0:Int))=ayE s from en];exact k
  ·dsimp only at en H;rw[H] at en;exact en
theorem aCq:GPk gIs:=aDU.cons (λd W H=>aDV H) call120
abbrev aEV:Ctr:=k1 cS (cP cI cI) (λ_=>true) ayE
variable {W:World}
theorem aC9 (H:GlobP d W):CtrOK prog W 17 aEV:=dD λs _=>
 gn aCq KE H (ann:=aD5 (VI s)) (n:=12) m8 ((cP cI cI).ids _) (by
  show my d gIs (azT d) (aD5 (VI s)) 12 17 [.val (.string s)] _;rw[aD6]
  exact aBH (K:=λr=>r=_) rfl)
def gLn:List (FuncId×Ctr):=(122,k1 cI cS cl ofI)::gIs
theorem aBh:GPk gLn:=aCq.cons (λd W H=>(WR.all W H.1.1 (122,k1 cI cS cl ofI) (by simp[mZ])).1) call122
def sp11:zdG:=⟨#[32]⟩
def ayN (x:InX) (K:Prop):Prop:=ah (decide (0<=x.1)&&decide (x.1<10)) (ah (decide (0+x.1.toNat<10)) K)
def fy (a b:zdG) (K:Prop):Prop:=ah (decide (a.size+b.size<=9223372036854775807)) K
def lnT11 (x:InX) (K:zdR):Prop:=U11 (ayN x (ag (x.1==0)
 (fy (eo (0+x.1.toNat)) sp11 (ah (uzR x.2.2) (fy (eo (0+x.1.toNat)++sp11) (gk x.2.2) (K (cS.enc (eo (0+x.1.toNat)++sp11++gk x.2.2))))))
 (ag (x.1==1) (ag (x.1==1) (lnN x K) (K (cS.enc (eo (0+x.1.toNat))))) (ag (x.1==2) (lnN x K) (K (cS.enc (eo (0+x.1.toNat))))))))
where lnN (x:InX) (K:zdR):Prop:=fy (eo (0+x.1.toNat)) sp11 (ah (cl x.2.1) (fy (eo (0+x.1.toNat)++sp11) (ofI x.2.1) (K (cS.enc (eo (0+x.1.toNat)++sp11++ofI x.2.1)))))
theorem aEW (d:Ad3) (op n:Int) (v:RS) (K:zdR):my d gLn (azT d) (λ_ _=>none) 6 38 [cIn.enc (op,n,v)] K=lnT11 (op,n,v) K:=by kernel_rfl
def u8b (z:Int):UInt8:=UInt8.ofNat z.toNat
def aDx (x:InX) (K:zdR):Prop:=ag (x.1==0)
 (ah (uzR x.2.2) (fy ⟨#[u8b 0,u8b (IntKind.u8.wrap (((gk x.2.2).size:Int).fdiv 256)),u8b (IntKind.u8.wrap (gk x.2.2).size)]⟩ (gk x.2.2) (K (cS.enc (⟨#[u8b 0,u8b (IntKind.u8.wrap (((gk x.2.2).size:Int).fdiv 256)),u8b (IntKind.u8.wrap (gk x.2.2).size)]⟩++gk x.2.2)))))
 (ag (x.1==1) (ag (x.1==1) (K (cS.enc ⟨#[u8b (IntKind.u8.wrap x.1),u8b (IntKind.u8.wrap x.2.1)]⟩)) (K (cS.enc ⟨#[u8b (IntKind.u8.wrap x.1)]⟩)))
   (ag (x.1==2) (K (cS.enc ⟨#[u8b (IntKind.u8.wrap x.1),u8b (IntKind.u8.wrap x.2.1)]⟩)) (K (cS.enc ⟨#[u8b (IntKind.u8.wrap x.1)]⟩))))
theorem aEX (d:Ad3) (op n:Int) (v:RS) (K:zdR):my d gLn (azT d) (λ_ _=>none) 6 43 [cIn.enc (op,n,v)] K=aDx (op,n,v) K:=by kernel_rfl
theorem ayp (h0:0<=n):u8b (IntKind.u8.wrap n)=UInt8.ofNat n.toNat:=by
 unfold u8b IntKind.wrap;apply UInt8.toNat.inj;simp[IntKind.bits,IntKind.signed];omega
def uo (x:InX):Bool:=isF x&&decide (0<=x.1)
theorem azh (h:uo x=true):0<=x.1/\x.1<10/\(x.1=0->rV x.2.2=true)/\(x.1=1\/x.1=2->0<=x.2.1/\x.2.1<16):=by
 unfold uo at h;rw[za2,zdt] at h;obtain⟨h1,h2⟩:=h;refine⟨h2,aAT h1,λe=> ?_,λe=> ?_⟩
 ·unfold isF at h1;rw[e] at h1;exact h1
 ·unfold isF at h1;rcases e with e|e
  ·rw[e] at h1;simp at h1;omega
  ·rw[e] at h1;simp at h1;omega
theorem aJM:(eo i).size<=5:=by
 unfold eo;split<;>decide
theorem aJN (h:0<=n/\n<16):(ofI n).size<=3:=by
 have: ∀i:Fin 16,(ofI (i:Int)).size<=3:=by decide+kernel
 have:=this ⟨n.toNat,by omega⟩;rwa[show (((⟨n.toNat,by omega⟩:Fin 16):Nat):Int)=n from zcc h.1] at this
theorem aAw (h:uo x=true) (k:K (cS.enc (eh x))):lnT11 x K:=by
 obtain⟨h0,h1,J,hn⟩:=azh h;have z5:=aJM (i:=x.1.toNat);have z1:sp11.size=1:=rfl;have Y:x.1=1\/x.1=2->lnT11.lnN x K:=λe=>by
  obtain⟨n0,n1⟩:=hn e;have z3:=aJN ⟨n0,n1⟩;unfold lnT11.lnN;simp only[za7];refine ac (zdp (by omega)) (ac (V4.2 ⟨by omega,by omega⟩) (ac (zdp (by rw[ByteArray.size_append];omega)) ?_));have H:eh x=eo x.1.toNat++sp11++ofI x.2.1:=by
   unfold eh gy;have c0:(x.1==0)=false:=by rw[zdw];omega
   have c1:(x.1==1||x.1==2)=true:=by rcases e with e|e<;>rw[e]<;>rfl
   rw[c0,c1];exact gT (by simp[eD,sp11])
  rw[H] at k;exact k
 have hS:x.1≠0->x.1≠1->x.1≠2->K (cS.enc (eo (0+x.1.toNat))):=λe0 H e2=>by
  have el:eh x=eo x.1.toNat:=by
   unfold eh gy;rw[beq_eq_false_iff_ne.2 e0,beq_eq_false_iff_ne.2 H,beq_eq_false_iff_ne.2 e2];exact gT (by simp)
  rw[el] at k;rw[za7];exact k
 refine λ_ _=>ac (by rw[zdp h0,zdp h1];rfl) (ac (zdp (by omega)) (bI (λe=> ?_) λe=>bI (λH=>bI (λ_=>Y (.inl (by simpa using H))) λN=>by rw[H] at N;cases N) λH=>bI (λe2=>Y (.inr (by simpa using e2))) λe2=>hS (by simpa using e) (by simpa using H) (by simpa using e2)));have e:x.1=0:=by simpa using e
 have J:=J e;have zp:=iU J;simp only[za7];refine ac (zdp (by omega)) (ac (Ie J) (ac (zdp (by rw[ByteArray.size_append];omega)) ?_));have H:eh x=eo x.1.toNat++sp11++gk x.2.2:=by
  unfold eh gy;rw[e];exact gT (by simp[eD,sp11])
 rw[H] at k;exact k
theorem aCr (h:uo x=true) (k:K (cS.enc (cu x))):aDx x K:=by
 obtain⟨h0,h1,J,hn⟩:=azh h;have Y:x.1=1\/x.1=2->K (cS.enc ⟨#[u8b (IntKind.u8.wrap x.1),u8b (IntKind.u8.wrap x.2.1)]⟩):=λe=>by
  obtain⟨n0,n1⟩:=hn e;rw[ayp h0,ayp n0];have H:cu x=⟨#[UInt8.ofNat x.1.toNat,UInt8.ofNat x.2.1.toNat]⟩:=by
   unfold cu cn;have c0:(x.1==0)=false:=by rw[zdw];omega
   have c1:(x.1==1||x.1==2)=true:=by rcases e with e|e<;>rw[e]<;>rfl
   rw[c0,c1];rfl
  rw[H] at k;exact k
 have hS:x.1≠0->x.1≠1->x.1≠2->K (cS.enc ⟨#[u8b (IntKind.u8.wrap x.1)]⟩):=λe0 H e2=>by
  have el:cu x=⟨#[UInt8.ofNat x.1.toNat]⟩:=by
   unfold cu cn;rw[beq_eq_false_iff_ne.2 e0,beq_eq_false_iff_ne.2 H,beq_eq_false_iff_ne.2 e2];rfl
  rw[el] at k;rw[ayp h0];exact k
 refine bI (λe=> ?_) λe=>bI (λH=>bI (λ_=>Y (.inl (by simpa using H))) λN=>by rw[H] at N;cases N) λH=>bI (λe2=>Y (.inr (by simpa using e2))) λe2=>hS (by simpa using e) (by simpa using H) (by simpa using e2);have e:x.1=0:=by simpa using e
 have J:=J e;have zp:=iU J;have hd:(((gk x.2.2).size:Int).fdiv 256)=(((gk x.2.2).size / 256:Nat):Int):=by
  rw[Int.fdiv_eq_ediv_of_nonneg _ (by decide)];rfl
 have ek:(⟨#[u8b 0,u8b (IntKind.u8.wrap (((gk x.2.2).size:Int).fdiv 256)),u8b (IntKind.u8.wrap (gk x.2.2).size)]⟩:zdG)++gk x.2.2=cu x:=by
  rw[hd,ayp (Int.natCast_nonneg _),ayp (Int.natCast_nonneg _)];unfold cu cn;rw[e]
  exact gT (by
   simp[eD,u8b]
   exact congrArg UInt8.ofNat (by omega))
 rw[<-ek] at k;refine ac (Ie J) (ac (zdp ?_) k);show 3+(gk x.2.2).size<=_;omega
theorem aD7 (H:GlobP d W):CtrOK prog W 38 (k1 cIn cS uo eh):=dD λx h=>by
 refine gn aBh KE H (ann:=λ_ _=>none) (n:=6) m8 (cS.ids _) ?_;rw[show x=(x.1,x.2.1,x.2.2) from rfl,aEW];exact aAw (K:=λr=>r=_) h rfl
def coV (x:InX):zdG:=bif uo x then cu x else⟨#[]⟩
theorem aCs (h:uo x=true):coV x=cu x:=by unfold coV;rw[h];rfl
theorem aD8 (H:GlobP d W):CtrOK prog W 43 (k1 cIn cS uo coV):=dD λx h=>by
 rw[aCs h];refine gn aBh KE H (ann:=λ_ _=>none) (n:=6) m8 (cS.ids _) ?_;rw[show x=(x.1,x.2.1,x.2.2) from rfl,aEX];exact aCr (K:=λr=>r=_) h rfl
def gPn:List (FuncId×Ctr):=(38,k1 cIn cS uo eh)::gIs
theorem aDA:GPk gPn:=aCq.cons (λd W H=>aD7 H) call38
end Go.Proofs.YtdjfpjmijhjmpaaGreatDoor
namespace Go.Sy
open Go.RowKit
def ab2 (src:zdH) (i:Nat):Option (Option Nat):=match src[i]? with
 |some j=>some (some j)
 |none=>none
variable {src:zdH}
theorem afy {nx:Nat}:rnF (src.map some) [] nx=ab2 src:=by
 funext i
 unfold rnF ab2;rw[zaL];cases src[i]? <;>rfl
theorem adz: ∀{l:zdH},ck (l.map some)=l
 | []=>rfl
 |i::r=>by simp[ck,adz (l:=r)]
def isL:BK->Bool
 | .mpL=>true
 |_=>false
def isO:BK->Bool
 | .own=>true
 |_=>false
variable {k:BK}
theorem afz (h:isL k=true):k= .mpL:=by cases k<;>first|rfl|cases h
theorem alK (h:isO k=true):k= .own:=by cases k<;>first|rfl|cases h
def akF (C B:Blk):Bool:=Nat.beq C.sz B.sz&&((!C.nn||(B.nn||Nat.ble 1 C.n))&&(match C.kd with
 | .gone=>true
 | .old=>aI3 B.kd&&Nat.ble C.n B.n
 | .own=>isO B.kd&&(Nat.ble 1 C.n&&(Nat.ble 1 C.sz&&Nat.ble C.n B.n))
 | .mpL=>isL B.kd&&Nat.beq C.n 0
 |_=>false))
def af8 (f:zdX) (C:Blk):Nat->List (Option (zdJ))
 |0=> []
 |n+1=>af8 f C n++ [SV.rns f (C.get n)]
def af9 (B:Blk):Nat->List (Option (zdJ))
 |0=> []
 |n+1=>af9 B n++ [some (B.get n)]
def ahb (bl:zdL):List Nat->List Blk->Bool
 | [], []=>true
 |i::r,C::Cs=>(match bl i with
  |some B=>akF C B
  |none=>false)&&ahb bl r Cs
 |_,_=>false
def aip (bl:zdL):List Nat->List Blk->List (List (Option (zdJ)))
 |i::r,C::Cs=>(match bl i with
  |some B=>(match aI3 C.kd with
   |true=>af9 B C.n
   |false=> [])
  |none=> [])::aip bl r Cs
 |_,_=> []
def aga (f:zdX):List Blk->List (List (Option (zdJ)))
 |C::Cs=>(match aI3 C.kd with
  |true=>af8 f C C.n
  |false=> [])::aga f Cs
 | []=> []
def agb (bl:zdL):List Nat->List Blk->List (Nat->Option (zdJ))
 |i::r,C::Cs=>(match isL C.kd with
  |true=>(match bl i with
   |some B=>(λe=>some (B.get e))::agb bl r Cs
   |none=> [])
  |false=>agb bl r Cs)
 |_,_=> []
def acG (f:zdX):List Blk->List (Nat->Option (zdJ))
 |C::Cs=>(match isL C.kd with
  |true=>(λe=>SV.rns f (C.get e))::acG f Cs
  |false=>acG f Cs)
 | []=> []
theorem aej {f:zdX} {C:Blk}: ∀{n:Nat},(af8 f C n).length=n
 |0=>rfl
 |n+1=>by rw[af8,za3,aej];rfl
theorem aek {B:Blk}: ∀{n:Nat},(af9 B n).length=n
 |0=>rfl
 |n+1=>by rw[af9,za3,aek];rfl
theorem adP {f:zdX} {C B:Blk}: ∀{n:Nat},af9 B n=af8 f C n-> ∀e,e<n->SV.rns f (C.get e)=some (B.get e)
 |0,_,e,H=>absurd H (zbm e)
 |n+1,h,e,H=>by
  rw[af9,af8] at h;obtain⟨h1,h2⟩:=List.append_inj h (by rw[aek,aej]);simp only[zc9,and_true] at h2;rcases zah e n with k|k
  ·exact adP h1 e k
  ·obtain rfl:e=n:=by omega
   exact h2.symm
theorem ael {bl:zdL} {f:zdX}: ∀{src:zdH} {Cs:zdU},ahb bl src Cs=true->aip bl src Cs=aga f Cs->agb bl src Cs=acG f Cs->yw bl f (src.map some) Cs
 | [], [],_,_,_=>trivial
 |i::r,C::Cs,h1,h2,h3=>by
  rw[ahb,za2] at h1;obtain⟨a,b⟩:=h1;rw[aip,aga,zc9] at h2;obtain⟨c,h2⟩:=h2;rw[agb,acG] at h3;cases hB:bl i with
  |none=>rw[hB] at a;cases a
  |some B=>
   simp only[hB] at a c h3;have q:agb bl r Cs=acG f Cs/\(C.kd= .mpL-> ∀e,SV.rns f (C.get e)=some (B.get e)):=by
    cases N:isL C.kd with
    |true=>
     simp only[N,zc9] at h3;exact⟨h3.2,λ_ e=>(congrFun h3.1 e).symm⟩
    |false=>
     simp only[N] at h3;exact⟨h3,λJ=>by rw[J] at N;cases N⟩
   refine aw ?_ (ael b h2 q.1);show match bl i with
    |some B=>wB f C B
    |none=>False
   rw[hB];simp only[akF,za2] at a;obtain⟨a1,Y,H⟩:=a;refine⟨zab a1,λhn=> ?_, ?_⟩
   ·rw[hn] at Y;simp only[zbh,zbi,zav] at Y;exact Y.imp id zak
   ·cases J:C.kd with
    |gone=>trivial
    |old=>
     simp only[J,za2,aI3] at H c;obtain⟨k1,k2⟩:=H;refine⟨λe=>(by rw[e] at k1;cases k1),(by cases hq:B.kd<;>rw[hq] at k1<;>first|rfl|cases k1),zak k2,adP c⟩
    |own=>
     simp only[J,za2,aI3] at H c;obtain⟨k1,k2,k3,k4⟩:=H;exact⟨alK k1,zak k2,zak k3,zak k4,adP c⟩
    |mpL=>
     simp only[J,za2] at H;exact⟨afz H.1,zab H.2,q.2 J⟩
    |_=>simp[J] at H
 | [],_::_,h,_,_=>by cases h
 |_::_, [],h,_,_=>by cases h
abbrev ahc:=SV×List Blk×List (Nat×Blk)
def rcL (b:Bool) (r:ahc):RC:={X:=Unit,pre:=b,spec:=λ_=>True,out:=λ_=>r.1,nw:=λ_=>r.2.1,ch:=λ_=>r.2.2,ex:=λ_=>⟨(),trivial⟩}
def agc (p:Prop):Bool:= @decide p (Classical.propDecidable p)
theorem ac5 {p:Prop}:agc p=true↔p:=by unfold agc;exact @decide_eq_true_iff p (Classical.propDecidable p)
def aeT (bl:zdL) (src:zdH) (Cs:zdU):Bool:=agc (aip bl src Cs=aga (ab2 src) Cs)&&agc (agb bl src Cs=acG (ab2 src) Cs)
def aiq (src:zdH) (Cs:zdU) (H:List SV->Bool) (R:Nat->ahc):MCtr:=λbl nx args=>
 bif H args&&ahb bl src Cs then some (rcL (aeT bl src Cs) (R nx)) else none
theorem afA {P:Program} {W0:Base} {F:FuncId} {ok:FuncId->Bool} {Γ:zdP} {Γm:FuncId->Option MCtr} {Δ:FuncId->Option DCtr} {Cs:zdU} {args':List SV->Bool} {R:Nat->ahc} {args0:zdJ} {ann:zdV} {n:Nat}
 (H: ∀B:Base,SubB B W0->HypD P B ok Γ Γm Δ) (ha: ∀args,args' args=true->SV.rns (ab2 src) args0=some args) (hu:src.Nodup) (hf:Far (src.map some) Cs)
 (Y: ∀b nx,Ay P ok Γ Γm Δ ann n F args0 (λi=>Cs[i]?) Cs.length [] (KB (rcL b (R nx)) (src.map some) Cs nx)):VU P W0 F (aiq src Cs args' R):=
 c8 H λbl nx args C J hp=>by
  unfold aiq at J;cases N:(args' args&&ahb bl src Cs) with
  |false=>rw[N] at J;cases J
  |true=>
   rw[N,zdr] at J;simp only[za1] at J;subst J;rw[za2] at N;have hp:aeT bl src Cs=true:=hp;simp only[aeT,za2,ac5] at hp;exact⟨src.map some,Cs,args0,ann,n,by rw[afy];exact ael N.2 hp.1 hp.2,aeB (by rw[adz];exact hu),hf,by rw[afy];exact ha args N.1,Y _ nx⟩
end Go.Sy
namespace Go.Proofs.YtdjfpjmijhjmpaaGreatDoor
open Go.Proofs.Tryz
open Go Go.RowKit Go.Sy Yk
variable {Cs:zdU} {d:Ad3} {g:List (FuncId×Ctr)} {gm:zdW} {ann:zdV} {n:Nat}
theorem kbP {C:RC} {src:zdT} {nx:Nat} {f:FuncId} {args:zdJ} {r:SV} (x:C.X) (J:C.spec x) (h1:C.pan x=none) (h2:r.ids= []) (h3:C.out x=r) (h4:C.nw x= []) (h5:C.ch x= []) (h6: ∀C∈Cs,cN C.kd=false) (H:src.length=Cs.length)
 (h:ayw d g gm ann n f args Cs (Go.Sy.okK λs _ _ _=>s=r)):ayw d g gm ann n f args Cs (KB C src Cs nx):=azw h λq b m w hq=>by
 cases q with
 |pan v=>exact hq.elim
 |ok s=>
  obtain rfl:s=r:=hq;exact IG x J h1 h2 h3 h4 h5 h6 H
def ayq:Blk:={n:=10,sz:=3,get:=ay8,kd:= .old}
def wBk (w:zdG):Blk:={n:=1,sz:=1,get:=λ_=> [.val (.string w)],kd:= .old,nn:=false}
def aA1 (w:zdG) (K:Int->Prop):Prop:=ag (seq (eo 0) w) (K 0) (ag (seq (eo 1) w) (K 1) (ag (seq (eo 2) w) (K 2) (ag (seq (eo 3) w) (K 3) (ag (seq (eo 4) w) (K 4) (ag (seq (eo 5) w) (K 5) (ag (seq (eo 6) w) (K 6) (ag (seq (eo 7) w) (K 7) (ag (seq (eo 8) w) (K 8) (ag (seq (eo 9) w) (K 9) (K (-1)))))))))))
theorem aEY (d:Ad3) (w:zdG) (Q:zdR):ayw d [] [] (λ_ _=>none) 4 126 [.slc 0 0 10, .fn (.func 127) [] [.ptr 1 0 0]] [ayq,wBk w] (Go.Sy.okK λr _ _ _=>Q r)=aA1 w λop=>Q (cI.enc op):=by kernel_rfl
variable {w:zdG}
theorem aDc {K:Int->Prop} (k:K (ayl w)):aA1 w K:=by
 unfold ayl at k;unfold aA1;cases h0:seq (eo 0) w with
 |true=>rw[h0] at k;exact k
 |false=>
 cases h1:seq (eo 1) w with
 |true=>rw[h0,h1] at k;exact k
 |false=>
 cases h2:seq (eo 2) w with
 |true=>rw[h0,h1,h2] at k;exact k
 |false=>
 cases h3:seq (eo 3) w with
 |true=>rw[h0,h1,h2,h3] at k;exact k
 |false=>
 cases h4:seq (eo 4) w with
 |true=>rw[h0,h1,h2,h3,h4] at k;exact k
 |false=>
 cases h5:seq (eo 5) w with
 |true=>rw[h0,h1,h2,h3,h4,h5] at k;exact k
 |false=>
 cases h6:seq (eo 6) w with
 |true=>rw[h0,h1,h2,h3,h4,h5,h6] at k;exact k
 |false=>
 cases h7:seq (eo 7) w with
 |true=>rw[h0,h1,h2,h3,h4,h5,h6,h7] at k;exact k
 |false=>
 cases h8:seq (eo 8) w with
 |true=>rw[h0,h1,h2,h3,h4,h5,h6,h7,h8] at k;exact k
 |false=>
 cases h9:seq (eo 9) w with
 |true=>rw[h0,h1,h2,h3,h4,h5,h6,h7,h8,h9] at k;exact k
 |false=>rw[h0,h1,h2,h3,h4,h5,h6,h7,h8,h9] at k;exact k
def aDd (i j:Nat):List SV->Bool
 | [.slc a 0 10, .fn (.func f) [] [.ptr b 0 0]]=>Nat.beq a i&&(Nat.beq b j&&Nat.beq f 127)
 |_=>false
def kIx:MCtr:=λbl nx args=>match args with
 | [.slc i 0 _, .fn (.func _) [] [.ptr j 0 0]]=>(match bl j with
   |some C=>(match C.get 0 with
    | [.val (.string w)]=>bif Nat.beq i j then none else aiq [i,j] [ayq,wBk w] (aDd i j) (λ_=>(cI.enc (ayl w), [], [])) bl nx args
    |_=>none)
   |none=>none)
 |_=>none
variable {B:Base}
theorem aEZ (hg:GPk g) (Y:MPk d gm) {F:FuncId} {src:zdH} {args':List SV->Bool} {R:Nat->ahc} {args0:zdJ} 
 (J: ∀args,args' args=true->SV.rns (ab2 src) args0=some args) (hu:src.Nodup) (N:Far (src.map some) Cs)
 (H: ∀b nx,ayw d g gm ann n F args0 Cs (KB (rcL b (R nx)) (src.map some) Cs nx)) (hB:GlobPB d B):VU prog B F (aiq src Cs args' R):=by
 unfold ayw at H;exact afA (λB' hs=>aCW hg Y (hB.sub hs)) J hu N H
theorem aEa (d:Ad3) (w:zdG):ayw d [] [] (λ_ _=>none) 4 126 [.slc 0 0 10, .fn (.func 127) [] [.ptr 1 0 0]] [ayq,wBk w] (Go.Sy.okK λr _ _ _=>r=cI.enc (ayl w)):=by
 rw[aEY];exact aDc rfl
theorem aFj (w:zdG): ∀C∈ [ayq,wBk w],cN C.kd=false:=λC H=>by
 rcases zai.1 H with rfl|H
 ·rfl
 ·rcases zai.1 H with rfl|H
  ·rfl
  ·cases H
theorem aFk (w:zdG) (l:zdT):Far l [ayq,wBk w]:= .inl λC H=>by
 rcases zai.1 H with rfl|H
 ·rfl
 ·rcases zai.1 H with rfl|H
  ·rfl
  ·cases H
theorem aEb (d:Ad3) (w:zdG) (i j:Nat) (b:Bool) (m:Nat):ayw d [] [] (λ_ _=>none) 4 126 [.slc 0 0 10, .fn (.func 127) [] [.ptr 1 0 0]] [ayq,wBk w] (KB (rcL b (cI.enc (ayl w), [], [])) ([i,j].map some) [ayq,wBk w] m):=
 by
 refine azw (K:=Go.Sy.okK λr _ _ _=>r=cI.enc (ayl w)) (aEa d w) ?_;intro r H n wl hq;cases r with
 |pan v=>exact hq.elim
 |ok s=>
  obtain rfl:s=cI.enc (ayl w):=hq;exact IG () trivial rfl (cI.ids _) rfl rfl rfl (aFj w) rfl
variable {i j:Nat}
theorem aDe {l:zdJ} (H:aDd i j l=true):SV.rns (ab2 [i,j]) [.slc 0 0 10, .fn (.func 127) [] [.ptr 1 0 0]]=some l:=by
 unfold aDd at H;split at H
 ·simp only[za2] at H;rw[zab H.1,zab H.2.1,zab H.2.2];rfl
 ·cases H
theorem aEc (h:i≠j): [i,j].Nodup:=by simp[h]
theorem aEd (H:i≠j) (hB:GlobPB d B):VU prog B 126 (aiq [i,j] [ayq,wBk w] (aDd i j) λ_=>(cI.enc (ayl w), [], [])):=
 aEZ (d:=d) (g:= []) (gm:= []) (ann:=λ_ _=>none) (n:=4) (args0:= [.slc 0 0 10, .fn (.func 127) [] [.ptr 1 0 0]]) (GPk.of (GEk.of GOk.nil)) (MPk.of MEk.nil) (λl J=>aDe J) (aEc H) (aFk w _) (λb m=>aEb d w i j b m) hB
theorem aEe (B:Base) (hB:GlobPB d B):VU prog B 126 kIx:=by
 intro bl β wd nx args C Y a2 a3 a4 H hp;unfold kIx at H;split at H
 ·rename_i i n0 f0 j;split at H
  ·rename_i D hD;split at H
   ·rename_i w hw;cases J:Nat.beq i j with
    |true=>rw[J] at H;cases H
    |false=>
     rw[J,zdq] at H;have N:i≠j:=λe=>by rw[e] at J;simp at J
     exact aEd N hB bl β wd nx _ C Y a2 a3 a4 H hp
   ·cases H
  ·cases H
 ·cases H
def gPa:List (FuncId×Ctr):=(128,k1 cS (cP cI cI) (λs=>decide (s.size<=1000000)) ayx)::(43,k1 cIn cS uo coV)::(125,k2 cS cS (cP3 cS cS cB) (λs _=>decide (s.size<=1000000)) abn)::gPn
def aEf (d:Ad3):zdW:=(39,abV)::(126,kIx)::azT d
def c3 (x:ByteArray×Int×Int):SV:= .tup [.val (.string x.1), .val (.int .i64 x.2.1), .val (.int .i64 x.2.2)]
def aEg (w:zdG):Bool:=aeT (λi=>match i with
 |0=>some {n:=10,sz:=3,get:=ay8,kd:= .own}
 |_=>some {n:=1,sz:=1,get:=λ_=> [.val (.string w)],kd:= .own}) [0,1] [ayq,wBk w]
theorem aDg (w:zdG):aEg w=true:=by
 unfold aEg aeT;rw[za2,ac5,ac5];exact⟨rfl,rfl⟩
theorem Q5 {g n:Bool} (h:g=true->n=true):dC g n=true:=by
 unfold dC;cases n with
 |true=>rfl
 |false=>cases g with
  |true=>exact absurd (h rfl) (by decide)
  |false=>rfl
theorem aE2:GPk gPa:=((aDA.cons (λd W H=>abS H.1.1) call125).cons (λd W H=>aD8 H) call43).cons (λd W H=>aD0 H) call128
variable {d:Ad3}
theorem aDh:MPk d (aEf d):=(KE.cons λB hB=>aEe B hB).cons λB hB=>adm hB.gE.gU
structure GlobT (w:World):Prop where
 tk: ∀i,i<10->w.cell? ⟨0,i,none⟩=some (.int .i64 (gi i))
 pt: ∀i,i<10->w.cell? ⟨1,i,none⟩=some (.int .i64 (lj i))
 nm: ∃k o cap,w.cell? ⟨3,0,none⟩=some (.slice (some ⟨k,o,none⟩) 10 cap)/\10<=cap/\(∀j,j<cap->(w.cell? ⟨k,o+j,none⟩).isSome=true)/\ ∀i,i<10->w.cell? ⟨k,o+i,none⟩=some (.string (eo i))
variable {w:World} {b j:Nat}
theorem aBj (h:(w.cell? ⟨b,j,none⟩).isSome=true):b<w.heap.size:=by
 cases H:w.cell? ⟨b,j,none⟩ with
 |none=>rw[H] at h;cases h
 |some v=>exact World.block_lt_of_cell? w _ H
variable {w':World}
theorem GlobT.below (h:GlobT w) (H:Below w.heap.size w w'):GlobT w':=by
 have c: ∀{b j:Nat} {v:Value},w.cell? ⟨b,j,none⟩=some v->w'.cell? ⟨b,j,none⟩=some v:=λ{b j v} e=>by
  rw[H.cell (p:=⟨b,j,none⟩) (World.block_lt_of_cell? w _ e)];exact e
 obtain⟨k,o,cap,h1,h2,h3,h4⟩:=h.nm;refine⟨λi hi=>c (h.tk i hi),λi hi=>c (h.pt i hi),k,o,cap,c h1,h2,λj J=> ?_,λi hi=>c (h4 i hi)⟩;rw[H.cell (p:=⟨k,o+j,none⟩) (aBj (h3 j J))];exact h3 j J
def GlobQ (d:Ad3) (w:World):Prop:=GlobP d w/\GlobT w
theorem GlobQ.below (h:GlobQ d w) (H:Below w.heap.size w w'):GlobQ d w':=⟨GlobP.below h.1 H,h.2.below H⟩
def tkB:Blk:={n:=10,sz:=1,get:=λe=> [.val (.int .i64 (gi e))],kd:= .glb}
def ptB:Blk:={n:=10,sz:=1,get:=λe=> [.val (.int .i64 (lj e))],kd:= .glb}
variable {β:Nat->Go.Sy.Loc} {B:Blk}
theorem K2 {id:Nat} {o0 cap:Nat} (hβ:β id=⟨b,o0,1,cap,false⟩) (N:B.sz=1) (hn:B.n<=cap) (hk:B.kd≠ .own) (hp:0<cap) (Y: ∀j,j<cap->(w.cell? ⟨b,o0+j,none⟩).isSome=true)
 (hg: ∀e,e<B.n-> ∃s,B.get e= [s]/\w.cell? ⟨b,o0+e,none⟩=some (s.conc β)):BlkOK β id B w:=by
 refine⟨by rw[hβ,N],λ_=>by rw[hβ];exact aBj (Y 0 hp),by rw[hβ];exact hn,λe J=> ?_,λj hj=> ?_,λh=>absurd h hk,λe J o s H=> ?_,λh=>(by rw[hβ] at h;cases h),λ_=>by rw[hβ]⟩
 ·obtain⟨s,h1,_⟩:=hg e J;rw[h1,N];rfl
 ·rw[hβ,N] at hj;rw[hβ];simpa using Y j (by simpa using hj)
 ·obtain⟨s',h1,h2⟩:=hg e J;rw[h1] at H;cases o with
  |succ o=>simp at H
  |zero=>
   simp only[zbA,za1] at H;subst H;unfold addr;rw[hβ];simpa using h2
theorem aDj {βB:Nat->Go.Sy.Loc} {i:Nat} (h:BlkOK βB j B w) (hl:β i=βB j) (J: ∀e,e<B.n->SV.idss (B.get e)= []):BlkOK β i B w:=
 wD (i1:=j) h hl.symm rfl (za0 _) id (λh=> .inl h) λe N=>⟨rfl,λo s H=>⟨s,H,SV.conc_congr s λj Y=>by
  have:j∈SV.idss (B.get e):=SV.mem_idss.2 ⟨s,zal H,Y⟩
  rw[J e N] at this;cases this⟩⟩
structure GQk (g:List (FuncId×Ctr)):Prop where
 all: ∀(d:Ad3) (W:World),GlobQ d W-> ∀p∈g,CtrOK prog W p.1 p.2/\Callable prog p.1
variable {g:List (FuncId×Ctr)}
theorem GQk.of (h:GPk g):GQk g:=⟨λd W H=>h.all d W H.1⟩
theorem GQk.cons {F:FuncId} {c:Ctr} (h:GQk g) (k: ∀(d:Ad3) (W:World),GlobQ d W->CtrOK prog W F c) (J:Callable prog F):GQk ((F,c)::g):=⟨λd W H p hp=>by
 rcases zai.1 hp with rfl|hp
 ·exact⟨k d W H,J⟩
 ·exact h.all d W H p hp⟩
def GlobQB (d:Ad3) (B:Base):Prop:= ∀w,Pres B w->GlobQ d w
variable {d:Ad3} {B:Base}
theorem GlobQB.p (h:GlobQB d B):GlobPB d B:=λw H=>(h w H).1
theorem GlobQB.of {W:World} (h:GlobQ d W):GlobQB d W:=λw H=>h.below H.below
theorem GlobQB.sub {W:Base} (h:GlobQB d W) (s:SubB B W):GlobQB d B:=λw H=>h w (s.pres H)
def cB8:Cod Int where
 dec s:=match s with
  | .val (.int .u8 a)=>some a
  |_=>none
 enc a:= .val (.int .u8 a)
 ok s a h:=by
  split at h
  ·simp at h;rw[h]
  ·cases h
 ids _:=by simp[SV.ids]
def aBl (s:zdG) (k b:Int):zdG:=s.extract 0 k.toNat++⟨#[UInt8.ofNat b.toNat]⟩++s.extract (k+1).toNat s.size
def aA5 (s:zdG) (n b:Int):zdG:=bif seq s ⟨#[]⟩ then s else aBl s (co n s.size) b
theorem aDl:GPk []:=GPk.of (GEk.of GOk.nil)
def aCy (s:zdG) (k b:Int) (K:zdR):Prop:=ah (decide (0<=k)&&decide (k<=(s.size:Int))) (fy (s.extract 0 k.toNat) ⟨#[UInt8.ofNat b.toNat]⟩ (ah (inR .i64 (k+1)) (ah (decide (0<=k+1)&&decide (k+1<=(s.size:Int))) (fy (s.extract 0 k.toNat++⟨#[UInt8.ofNat b.toNat]⟩) (s.extract (k+1).toNat s.size) (K (cS.enc (aBl s k b)))))))
theorem aEj (d:Ad3) (s:zdG) (n b:Int) (K:zdR):my d [] [] (λ_ _=>none) 6 11 [cS.enc s,cI.enc n,cB8.enc b] K=
 ag (seq s ⟨#[]⟩) (K (cS.enc s)) (ag (decide (n<0)) (ah (inR .i64 (n+1)) (ah (inR .i64 (-(n+1))) (ah (!decide ((s.size:Int)=0)) (aCy s ((-(n+1)).tmod s.size) b K)))) (ah (!decide ((s.size:Int)=0)) (aCy s (n.tmod s.size) b K))):=by kernel_rfl
theorem aCz {s:zdG} {k b:Int} {K:zdR} (J:s.size<=1000000) (h:0<=k/\k<(s.size:Int)) (H:K (cS.enc (aBl s k b))):aCy s k b K:=by
 have N:(s.extract 0 k.toNat).size<=s.size:=by rw[ByteArray.size_extract];omega
 have Y:(s.extract (k+1).toNat s.size).size<=s.size:=by rw[ByteArray.size_extract];omega
 have z3:(⟨#[UInt8.ofNat b.toNat]⟩:zdG).size=1:=rfl;refine ac (by rw[zdp h.1,zdp (by omega)];rfl) (ac (zdp (by omega)) (ac (ej (by omega) (by omega)) (ac (by rw[zdp (by omega),zdp (by omega)];rfl) (ac (zdp (by rw[ByteArray.size_append];omega)) H))))
variable {d:Ad3} {W:World}
theorem aDm (N:GlobP d W):CtrOK prog W 11 (k3 cS cI cB8 cS (λs n _=>decide (s.size<=1000000)&&cl n) aA5):=sQ λs n b h=>by
 rw[za2] at h;have J:=zdu h.1;have Y:=V4.1 h.2;refine gn aDl (MPk.of MEk.nil) N (ann:=λ_ _=>none) (n:=6) AW (cS.ids _) ?_;rw[aEj];unfold aA5;refine bI (λe=>by rw[e];rfl) λe=> ?_;rw[e,zdq];have h0:(s.size:Int)≠0:=λq=>by
  have:s=⟨#[]⟩:=gT (zau (by rw[bj];omega));rw[this] at e;exact absurd (ayR.2 rfl) (by rw[e];simp)
 have H:(!decide ((s.size:Int)=0))=true:=by rw[zds h0];rfl
 have hp:=gR n (n:=(s.size:Int)) (by omega);unfold co at hp ⊢;refine bI (λq=> ?_) λq=> ?_
 ·rw[q,zdr] at hp ⊢;have q:=zdu q;exact ac (Wl.2 ⟨by show (-9223372036854775808:Int)<=_;omega,by show _<=(9223372036854775807:Int);omega⟩) (ac (Wl.2 ⟨by show (-9223372036854775808:Int)<=_;omega,by show _<=(9223372036854775807:Int);omega⟩) (ac H (aCz J hp rfl)))
 ·rw[q,zdq] at hp ⊢;exact ac H (aCz J hp rfl)
def puB (v:RS):zdG:=⟨#[u8b 0,u8b (IntKind.u8.wrap (((gk v).size:Int).tdiv 256)),u8b (IntKind.u8.wrap (gk v).size)]⟩
theorem aE5 (d:Ad3) (v:RS) (K:zdR):my d gLn [] (λ_ _=>none) 6 31 [cR.enc v] K=ah (uzR v) (ah (!decide ((256:Int)=0)&&inR .i64 (((gk v).size:Int).tdiv 256)) (fy (puB v) (gk v) (K (cS.enc (puB v++gk v))))):=by kernel_rfl
theorem aEk (Y:GlobP d W):CtrOK prog W 31 (k1 cR cS rV λv=>cu (0,0,v)):=dD λv J=>by
 refine gn aBh (MPk.of MEk.nil) Y (ann:=λ_ _=>none) (n:=6) m8 (cS.ids _) ?_;rw[aE5];have zp:=iU J;have H:(((gk v).size:Int).tdiv 256)=(((gk v).size / 256:Nat):Int):=by
  rw[Int.tdiv_eq_ediv_of_nonneg (Int.natCast_nonneg _)];rfl
 have N:puB v++gk v=cu (0,0,v):=by
  unfold puB;rw[H,ayp (Int.natCast_nonneg _),ayp (Int.natCast_nonneg _)];unfold cu cn
  exact gT (by
   simp[eD,u8b]
   exact congrArg UInt8.ofNat (by omega))
 refine ac (Ie J) (ac (by rw[H,ej (by omega) (by omega)];rfl) (ac (zdp ?_) ?_))
 ·show 3+(gk v).size<=_;omega
 ·rw[N]
theorem aE6 (d:Ad3) (n b:Int) (K:zdR):my d [] [] (λ_ _=>none) 6 32 [cI.enc n,cI.enc b] K=ag (bif n==1 then true else n==2) (K (cS.enc ⟨#[u8b (IntKind.u8.wrap n),u8b (IntKind.u8.wrap b)]⟩)) (K (cS.enc ⟨#[u8b (IntKind.u8.wrap n)]⟩)):=by kernel_rfl
theorem aEl (J:GlobP d W):CtrOK prog W 32 (k2 cI cI cS (λn b=>decide (1<=n)&&decide (0<=b)) λn b=>cu (n,b,noR)):=bC λn b h=>by
 rw[za2,zdt,zdt] at h;refine gn aDl (MPk.of MEk.nil) J (ann:=λ_ _=>none) (n:=6) de (cS.ids _) ?_;rw[aE6,ayp (by omega),ayp h.2];have c0:(n==0)=false:=by rw[zdw];omega
 unfold cu cn;dsimp only;rw[c0];refine bI (λe=> ?_) λe=> ?_
 ·have H:(n==1||n==2)=true:=by
   cases h1:n==1 with
   |true=>rfl
   |false=>rw[h1,zdq] at e;rw[e];rfl
  rw[H];rfl
 ·have H:(n==1||n==2)=false:=by
   cases h1:n==1 with
   |true=>rw[h1] at e;cases e
   |false=>rw[h1,zdq] at e;rw[e];rfl
  rw[H];rfl
def aFc:List SV->Int×Int
 | [.val (.int .i64 a), .val (.int .i64 b)]=>(a,b)
 |_=>(0,0)
def e2:El (Int×Int):={sz:=2,sv:=λx=> [.val (.int .i64 x.1), .val (.int .i64 x.2)],of:=aFc,d:=(0,0),rt:=λ_=>rfl,ids:=λ_=>rfl,len:=λ_=>rfl,one:=by decide}
abbrev MX11:=Int×ByteArray×Int
abbrev NX11:=ByteArray×Int
def aCE (I:MX11->Prop) (J:NX11->Prop) (R:zdV):zdV:=λf k=>bif Nat.beq f 8 then(bif Nat.beq k 4 then some (λ_=>{X:=MX11,inv:=I,tm:=λx=> [(5, .val (.int .i64 x.1)),(3, .val (.string x.2.1)),(4, .val (.int .i64 x.2.2))],mu:=λx=>(30 - x.1).toNat,keep:= [0]})
 else bif Nat.beq k 20 then some (λ_=>{X:=NX11,inv:=J,tm:=λx=> [(3, .val (.string x.1)),(4, .val (.int .i64 x.2))],mu:=λx=>x.2.toNat,keep:= []}) else none) else R f k
def aDH (q n:Nat) (i:Int) (c:zdG) (k:Int) (x:MX11):Prop:=(TV.v (cI.enc i)=TV.v (cI.enc x.1)/\TV.v (cS.enc c)=TV.v (cS.enc x.2.1)/\TV.v (cI.enc k)=TV.v (cI.enc x.2.2)/\TV.v (.slc q 0 n)=TV.v (.slc q 0 n)/\True)/\(True/\(True/\True))
def aCG (I:MX11->Prop) (q n:Nat) (x:MX11) (op:Int) (piece:zdG):Prop:=fy x.2.1 piece (ah (decide (0<=op)&&decide (op<10)) (ah (decide (op.toNat<10)) (ah (inR .i64 (x.2.2 - gi op.toNat)) (ah (decide (0<=op)&&decide (op<10)) (ah (decide (op.toNat<10)) (ah (inR .i64 (x.2.2 - gi op.toNat+lj op.toNat))
 (ah (inR .i64 (x.1+1)) (∃H:MX11,I H/\((30 - H.1).toNat<(30 - x.1).toNat/\aDH q n (x.1+1) (x.2.1++piece) (x.2.2 - gi op.toNat+lj op.toNat) H)))))))))
def aBo (I:MX11->Prop) (q n:Nat) (x:MX11) (op b:Int):Prop:=ah (decide (1<=op)&&decide (0<=b)) (aCG I q n x op (cu (op,b,noR)))
def ayO (d op:Int):Bool:=bif op==8 then true else decide (d<gi op.toNat)
def aDI (d op:Int):Bool:=bif ayO d op then true else decide (d - gi op.toNat+lj op.toNat>16)
def aBp (d n op:Int):Bool:=bif aDI d op then true else bif op==2 then decide (d<=n.tmod 3) else false
def aEv (I:MX11->Prop) (q m:Nat) (x:MX11) (n op:Int):Prop:=
 ah (dC (!(op==8)) (decide (0<=op)&&decide (op<10))) (ah (dC (!(op==8)) (decide (op.toNat<10))) (ah (dC (!ayO x.2.2 op) (decide (0<=op)&&decide (op<10))) (ah (dC (!ayO x.2.2 op) (decide (op.toNat<10))) (ah (dC (!ayO x.2.2 op) (inR .i64 (x.2.2 - gi op.toNat)))
 (ah (dC (!ayO x.2.2 op) (decide (0<=op)&&decide (op<10))) (ah (dC (!ayO x.2.2 op) (decide (op.toNat<10))) (ah (dC (!ayO x.2.2 op) (inR .i64 (x.2.2 - gi op.toNat+lj op.toNat)))
 (ag (aBp x.2.2 n op) (ag (x.2.2==16) (aBo I q m x 4 (n.tmod 3)) (aBo I q m x 1 (n.tmod 3)))
   (ag (op==0) (ah (inR .i64 (n - 20)) (ah (inR .i64 (1+n.tmod 4)) (ah (cl (n - 20)&&cl (1+n.tmod 4)) (ah (rV (rMk (n - 20) (1+n.tmod 4)).1) (aCG I q m x op (cu (0,0,(rMk (n - 20) (1+n.tmod 4)).1)))))))
     (aBo I q m x op (n.tmod 3)))))))))))
def aFd (I:MX11->Prop) (q:Nat) (xs:List (Int×Int)) (x:MX11) (p:Int×Int):Prop:=eO xs.length x.1 (ah (cl p.2&&decide ((0:Int)<60)) (eO xs.length x.1 (ah (cl p.1&&decide ((0:Int)<9)) (aEv I q xs.length x (co p.2 60) (co p.1 9)))))
def aFe (c:zdG) (k:Int) (y:NX11):Prop:=(TV.v (cS.enc c)=TV.v (cS.enc y.1)/\TV.v (cI.enc k)=TV.v (cI.enc y.2)/\True)/\(True/\(True/\True))
def aCH (J:NX11->Prop) (c:zdG) (k:Int) (K:ByteArray->Prop):Prop:= ∃N:NX11,J N/\(aFe c k N/\ ∀y:NX11,J y->ag (decide (y.2>1))
 (fy y.1 (cu (4,0,noR)) (ah (inR .i64 (y.2 - 1)) (∃H:NX11,J H/\(H.2.toNat<y.2.toNat/\aFe (y.1++cu (4,0,noR)) (y.2 - 1) H))))
 (fy y.1 (cu (9,0,noR)) (K (y.1++cu (9,0,noR)))))
def aDJ (q:Nat) (I:MX11->Prop) (J:NX11->Prop) (xs:List (Int×Int)) (N Y:ByteArray->Prop):Prop:= ∃H:MX11,I H/\(aDH q xs.length 0 ⟨#[]⟩ 0 H/\ ∀x:MX11,I x->ag (bif decide (x.1<(xs.length:Int)) then decide (x.1<30) else false) (aFd I q xs x (e2.nth xs (0+x.1.toNat)))
 (ag (x.2.2==0) (fy x.2.1 (cu (1,0,noR)) (aCH J (x.2.1++cu (1,0,noR)) 1 N)) (aCH J x.2.1 x.2.2 Y)))
theorem az4: ∀{l:List (Int×Int)} {p:Int×Int} {d:Int},mdL (l++ [p]) d=((mdL l d).1++ [mdX (mdL l d).2 p],mdD (mdL l d).2 (mdX (mdL l d).2 p))
 | [],p,d=>rfl
 |q::l,p,d=>by
  show (mdX d q::(mdL (l++ [p]) _).1,(mdL (l++ [p]) _).2)=_;rw[az4];rfl
theorem azN: ∀n:Nat,(aAX n).flatMap cn=List.replicate n 4
 |0=>rfl
 |n+1=>by
  show cn (4,0,noR)++(aAX n).flatMap cn=_;rw[azN n,zcd];rfl
theorem aAE (n op:Int) (h:0<=op):cu (ayD n op)=bif op==0 then cu (0,0,(rMk (n - 20) (1+n.tmod 4)).1) else cu (op,n.tmod 3,noR):=by
 unfold ayD;cases h0:op==0 with
 |true=>rfl
 |false=>
  rw[zdq,zdq];cases h1:(op==1||op==2) with
  |true=>rfl
  |false=>
   rw[zdq];unfold cu cn;simp only[h0,h1,zdq]
theorem aAG (s:zdG) (n b:Int):(aA5 s n b).size<=s.size+s.size+1:=by
 unfold aA5 aBl;cases seq s ⟨#[]⟩ with
 |true=>show s.size<=_;omega
 |false=>
  rw[zdq,ByteArray.size_append,ByteArray.size_append,ByteArray.size_extract,ByteArray.size_extract];have:(⟨#[UInt8.ofNat b.toNat]⟩:zdG).size=1:=rfl;omega
theorem ayr (s:zdG):seq s s=true:=by rw[F3];simp
theorem aAI (xs:List (Int×Int)):(mdF xs).size<=420:=by
 unfold mdF;rw[<-bj,eI];exact(aAY xs).2
structure MI11 (xs:List (Int×Int)) (x:MX11):Prop where
 lo:0<=x.1
 hi:x.1<=(xs.length:Int)
 h30:x.1<=30
 code:x.2.1=⟨((mdL (xs.take x.1.toNat) 0).1.flatMap cn).toArray⟩
 d:x.2.2=(mdL (xs.take x.1.toNat) 0).2
def aIM (xs:List (Int×Int)):List UInt8:=(mdL (xs.take 30) 0).1.flatMap cn++bif (mdL (xs.take 30) 0).2==0 then cn (1,0,noR) else []
def ut (xs:List (Int×Int)):Int:=bif (mdL (xs.take 30) 0).2==0 then 1 else(mdL (xs.take 30) 0).2
structure NI11 (xs:List (Int×Int)) (y:NX11):Prop where
 lo:1<=y.2
 hi:y.2<=ut xs
 code:y.1=⟨(aIM xs++List.replicate (ut xs - y.2).toNat 4).toArray⟩
theorem aEA (xs:List (Int×Int)):1<=ut xs/\ut xs<=16/\(aIM xs).length<=400:=by
 obtain⟨_,h2,h3,h4⟩:=aFx (l:=xs.take 30) (d:=0) ⟨by decide,by decide⟩;have H:(xs.take 30).length<=30:=by rw[zaE];omega
 unfold ut aIM;rw[za3];cases h0:(mdL (xs.take 30) 0).2==0 with
 |true=>
  refine⟨(by show (1:Int)<=1;decide),(by show (1:Int)<=16;decide), ?_⟩;show _+2<=400;omega
 |false=>
  have h0:(mdL (xs.take 30) 0).2≠0:=by simpa using h0
  refine⟨by rw[zdq];omega,by rw[zdq];exact h3, ?_⟩;show _+0<=400;omega
theorem aCM (xs:List (Int×Int)):aIM xs++List.replicate (ut xs - 1).toNat 4++ [9]=(mdA xs).flatMap cn:=by
 unfold aIM ut mdA aCl;rw[zd4];cases h0:(mdL (xs.take 30) 0).2==0 with
 |true=>simp only[zdr,za5];rfl
 |false=>
  simp only[zdq,zbf,za5];rw[zd4,azN];rfl
variable {xs:List (Int×Int)}
theorem aCN {c:zdG} {k:Int} {K:ByteArray->Prop} (H:c=⟨(aIM xs).toArray⟩) (N:k=ut xs) (Y:K (mdF xs)):aCH (NI11 xs) c k K:=by
 subst H N;obtain⟨t1,t2,t3⟩:=aEA xs;refine⟨(⟨(aIM xs).toArray⟩,ut xs),⟨t1,zat _,by dsimp only;rw[show (ut xs - ut xs).toNat=0 by omega];simp⟩,⟨⟨rfl,rfl,trivial⟩,trivial,trivial,trivial⟩, ?_⟩;rintro⟨c,k⟩ ⟨lo,hi,H⟩;dsimp only at lo hi H ⊢;have hz:c.size<=420:=by
  rw[H,<-bj,eI,za3,zcw];omega
 refine bI (λh=> ?_) λh=> ?_
 ·have h:=zdu h;have z4:(cu (4,0,noR)).size=1:=rfl;refine ac (zdp (by omega)) (ac (ej (by omega) (by omega)) ⟨(c++cu (4,0,noR),k - 1),⟨by dsimp only;omega,by dsimp only;omega, ?_⟩,by dsimp only;omega,⟨⟨rfl,rfl,trivial⟩,trivial,trivial,trivial⟩⟩);dsimp only;rw[H,show (ut xs - (k - 1)).toNat=(ut xs - k).toNat+1 by omega,List.replicate_succ'];exact gT (by simp[eD,cu,cn])
 ·have h:=zdv h;have J:k=1:=by omega
  have z9:(cu (9,0,noR)).size=1:=rfl;refine ac (zdp (by omega)) ?_;have:c++cu (9,0,noR)=mdF xs:=by
   rw[H,J];unfold mdF;rw[<-aCM];exact gT (by simp[eD,cu,cn])
  rw[this];exact Y
variable {q:Nat}
theorem aEB {x:MX11} {op:Int} {piece:zdG} (h:MI11 xs x) (hx:x.1<(xs.length:Int)) (h30:x.1<30) (ho:0<=op/\op<8) (h1:(mdX x.2.2 (e2.nth xs x.1.toNat)).1=op) (h2:piece=cu (mdX x.2.2 (e2.nth xs x.1.toNat))):aCG (MI11 xs) q xs.length x op piece:=by
 obtain⟨i,c,d⟩:=x;obtain⟨lo,hi,_,J,H⟩:=h;dsimp only at lo hi J H hx h30 h1 h2 ⊢;obtain⟨_,m2,m3,m4⟩:=aFx (l:=xs.take i.toNat) (d:=0) ⟨by decide,by decide⟩;rw[<-H] at m2 m3;have ok:=aCn ⟨m2,m3⟩ (e2.nth xs i.toNat);have hl:(xs.take i.toNat).length<=30:=by rw[zaE];omega
 have zc:c.size<=390:=by
  rw[J,<-bj,eI];omega
 have zp:piece.size<=13:=by
  rw[h2,<-bj];unfold cu;rw[eI];exact ok.sz
 obtain⟨t1,t0⟩:=azY (i:=op.toNat);obtain⟨p1,p0⟩:=azZ (i:=op.toNat) (by omega);have N:(decide (0<=op)&&decide (op<10))=true:=by rw[zdp ho.1,zdp (by omega)];rfl
 have Y:decide (op.toNat<10)=true:=zdp (by omega);have tk:xs.take (i+1).toNat=xs.take i.toNat++ [e2.nth xs i.toNat]:=by
  rw[show (i+1).toNat=i.toNat+1 by omega,zc0,Co (d:=e2.d) (show i.toNat<xs.length by omega)];rfl
 refine ac (zdp (by dsimp only;omega)) (ac N (ac Y (ac (ej (by dsimp only;omega) (by dsimp only;omega)) (ac N (ac Y (ac (ej (by dsimp only;omega) (by dsimp only;omega)) (ac (ej (by dsimp only;omega) (by dsimp only;omega)) ⟨(i+1,c++piece,d - gi op.toNat+lj op.toNat),⟨by dsimp only;omega,by dsimp only;omega,by dsimp only;omega, ?_, ?_⟩,by dsimp only;omega,⟨⟨rfl,rfl,rfl,rfl,trivial⟩,trivial,trivial,trivial⟩⟩)))))))
 ·dsimp only;rw[tk,az4,<-H,J,h2];exact gT (by simp[eD,cu])
 ·dsimp only;rw[tk,az4,<-H];show _=d - gi (mdX d (e2.nth xs i.toNat)).1.toNat+lj (mdX d (e2.nth xs i.toNat)).1.toNat;rw[h1]
theorem T7 {K0 K1:ByteArray->Prop} (hx: ∀p∈xs,cl p.1=true/\cl p.2=true) (k0:K0 (mdF xs)) (k1:K1 (mdF xs)):aDJ q (MI11 xs) (NI11 xs) xs K0 K1:=by
 refine⟨(0,⟨#[]⟩,0),⟨zat _,Int.natCast_nonneg _,by show (0:Int)<=30;decide,rfl,rfl⟩,⟨⟨rfl,rfl,rfl,rfl,trivial⟩,trivial,trivial,trivial⟩, ?_⟩;intro x h;have hh:=h;obtain⟨lo,hi,h30,hc,hd⟩:=hh;refine bI (λJ=> ?_) λJ=> ?_
 ·have j0:x.1<(xs.length:Int)/\x.1<30:=by
   cases h1:decide (x.1<(xs.length:Int)) with
   |false=>rw[h1] at J;cases J
   |true=>rw[h1,zdr] at J;exact⟨zdu h1,zdu J⟩
  obtain⟨a0,l0⟩:=j0;have hp:=hx _ (bw (d:=e2.d) (show x.1.toNat<xs.length by omega));have hp:cl (e2.nth xs x.1.toNat).1=true/\cl (e2.nth xs x.1.toNat).2=true:=hp;rw[za7];refine aY lo a0 (ac (by rw[hp.2];rfl) (aY lo a0 (ac (by rw[hp.1];rfl) ?_)));have hn:=gR (e2.nth xs x.1.toNat).2 (show (0:Int)<60 by decide);have ho:=gR (e2.nth xs x.1.toNat).1 (show (0:Int)<9 by decide);obtain⟨_,m2,m3,_⟩:=aFx (l:=xs.take x.1.toNat) (d:=0) ⟨by decide,by decide⟩;rw[<-hd] at m2 m3;have hX:mdX x.2.2 (e2.nth xs x.1.toNat)=ayD (co (e2.nth xs x.1.toNat).2 60) (ayC x.2.2 (co (e2.nth xs x.1.toNat).2 60) (co (e2.nth xs x.1.toNat).1 9)):=rfl;have hS:=λ{op:Int} {piece:zdG}=>aEB (q:=q) (op:=op) (piece:=piece) h a0 l0;rw[hX] at hS;generalize co (e2.nth xs x.1.toNat).2 60=n at*
  generalize co (e2.nth xs x.1.toNat).1 9=op at*
  obtain⟨k1,k2,_⟩:=aBe (n:=n) ⟨m2,m3⟩ ho;have i0:aBp x.2.2 n op=((op==8)||(decide (x.2.2<gi op.toNat)||(decide (x.2.2 - gi op.toNat+lj op.toNat>16)||((op==2)&&decide (x.2.2<=n.tmod 3))))):=by
   unfold aBp aDI ayO;cases op==8<;>cases decide (x.2.2<gi op.toNat)<;>cases decide (x.2.2 - gi op.toNat+lj op.toNat>16)<;>cases op==2<;>rfl
  have Y:ayC x.2.2 n op=bif aBp x.2.2 n op then(bif x.2.2==16 then 4 else 1) else op:=by rw[i0];rfl
  have i1:(decide (0<=op)&&decide (op<10))=true:=by rw[zdp ho.1,zdp (by omega)];rfl
  have i2:decide (op.toNat<10)=true:=zdp (by omega);obtain⟨t1,t0⟩:=azY (i:=op.toNat);obtain⟨p1,p0⟩:=azZ (i:=op.toNat) (by omega);have tm:=aDw hn.1;have g0: ∀o:Int,o=ayC x.2.2 n op->1<=o->aBo (MI11 xs) q xs.length x o (n.tmod 3):=λo e h1=>by
   subst e;refine ac (by rw[zdp h1,zdp tm.1];rfl) (hS ⟨k1,k2⟩ (aFm _ _) ?_);rw[aAE _ _ k1,show (ayC x.2.2 n op==0)=false by rw[zdw];omega];rfl
  refine ac (Q5 λ_=>i1) (ac (Q5 λ_=>i2) (ac (Q5 λ_=>i1) (ac (Q5 λ_=>i2) (ac (Q5 λ_=>ej (by omega) (by omega)) (ac (Q5 λ_=>i1) (ac (Q5 λ_=>i2) (ac (Q5 λ_=>ej (by omega) (by omega)) (bI (λhB=> ?_) λhB=> ?_))))))))
  ·rw[hB,zdr] at Y;refine bI (λN=>g0 4 (by rw[Y,N];rfl) (by decide)) λN=>g0 1 (by rw[Y,N];rfl) (by decide)
  ·rw[hB,zdq] at Y;refine bI (λh0=> ?_) λh0=>g0 op Y.symm ?_
   ·have H:op=0:=by simpa using h0
    have hv:=aAq ⟨n.toNat,by omega⟩;have en:((n.toNat:Nat):Int)=n:=zcc hn.1;dsimp only at hv;rw[en] at hv;have t4:0<=n.tmod 4/\n.tmod 4<4:=by rw[Int.tmod_eq_emod_of_nonneg hn.1];omega
    refine ac (ej (by omega) (by omega)) (ac (ej (by omega) (by omega)) (ac ?_ (ac hv.1 (hS ⟨ho.1,by omega⟩ ?_ ?_))))
    ·rw[za2,V4,V4];omega
    ·rw[Y];exact aFm _ _
    ·rw[Y,aAE _ _ ho.1,h0];rfl
   ·have H:op≠0:=by simpa using h0
    omega
 ·have e0:xs.take x.1.toNat=xs.take 30:=by
   cases h1:decide (x.1<(xs.length:Int)) with
   |false=>
    have h1:=zdv h1;rw[zaI (by omega),zaI (by omega)]
   |true=>
    rw[h1,zdr] at J;have J:=zdv J;rw[show x.1.toNat=30 by omega]
  rw[e0] at hc hd;refine bI (λh0=> ?_) λh0=> ?_
  ·have H:((mdL (xs.take 30) 0).2==0)=true:=by rw[<-hd];exact h0
   obtain⟨_,_,_,m4⟩:=aFx (l:=xs.take 30) (d:=0) ⟨by decide,by decide⟩;have hl:(xs.take 30).length<=30:=by rw[zaE];omega
   have zc:x.2.1.size<=390:=by rw[hc,<-bj,eI];omega
   have z1:(cu (1,0,noR)).size=2:=rfl;refine ac (zdp (by omega)) (aCN ?_ ?_ k0)
   ·rw[hc];unfold aIM;rw[H];exact gT (by simp[eD,cu])
   ·unfold ut;rw[H];rfl
  ·have H:((mdL (xs.take 30) 0).2==0)=false:=by rw[<-hd];exact h0
   refine aCN ?_ ?_ k1
   ·rw[hc];unfold aIM;rw[H];simp
   ·unfold ut;rw[H,hd];rfl
def az2 (c n:Int) (K:zdR):Prop:=ag (decide (c<0)) (ah (inR .i64 (c+1)) (ah (inR .i64 (-(c+1))) (ah (!decide (n=0)) (K (cI.enc ((-(c+1)).tmod n)))))) (ah (!decide (n=0)) (K (cI.enc (c.tmod n))))
theorem aBP (d:Ad3) (c n:Int) (K:zdR):my d [] [] (λ_ _=>none) 3 29 [cI.enc c,cI.enc n] K=az2 c n K:=by kernel_rfl
theorem az3 {c n:Int} {K:zdR} (N:cl c=true) (Y:0<n) (H:K (cI.enc (co c n))):az2 c n K:=by
 obtain⟨h1,h2⟩:=V4.1 N;unfold co at H;unfold az2;have J:(!decide (n=0))=true:=by simp;omega
 refine bI (λh=> ?_) λh=> ?_
 ·rw[h,zdr] at H;have h:=zdu h;exact Fy (by omega) (Fy (by omega) (ac J H))
 ·rw[h,zdq] at H;exact ac J H
theorem aCI {d:Ad3} {W:World} (H:GlobP d W):CtrOK Tryz.prog W 29 (k2 cI cI cI (λc n=>cl c&&decide (0<n)) co):=bC λc n h=>by
 rw[za2] at h;exact gn aDl (MPk.of MEk.nil) H (ann:=λ_ _=>none) (n:=3) de (cI.ids _) (by rw[aBP];exact az3 (K:=λr=>r=_) h.1 (zdu h.2) rfl)
def aL3 (n:Int):List UInt8->Option (Int×List UInt8)
 | []=>none
 |a::r=>bif n==1 then some ((a.toNat:Int),r) else bif n==2 then(match r with
  | []=>none
  |b::t=>some (((a.toNat*256+b.toNat:Nat):Int),t)) else none
def rdB (s:zdG):Go.Sy.Blk:={n:=1,sz:=1,get:=λ_=> [.val (.string s)],kd:= .own}
def rdL:List SV->Option ByteArray
 | [.val (.string s)]=>some s
 |_=>none
def aL4:BK->Bool
 | .own=>true
 |_=>false
variable {s:zdG}
theorem aKE {l:zdJ} (h:rdL l=some s):l= [.val (.string s)]:=by
 unfold rdL at h;split at h
 ·simp only[za1] at h;subst h;rfl
 ·cases h
theorem aKr {k:BK} (h:aL4 k=true):k= .own:=by cases k<;>first|rfl|cases h
theorem aL5 {f:zdX} {B:Go.Sy.Blk} (h1:B.kd= .own) (h2:1<=B.n) (h3:B.sz=1) (h4:B.get 0= [.val (.string s)]):wB f (rdB s) B:=by
 refine⟨h3.symm,λ_=> .inr (za0 _), ?_⟩;show B.kd= .own/\1<=1/\1<=1/\1<=B.n/\ ∀e,e<1->SV.rns f [.val (.string s)]=some (B.get e);refine⟨h1,za0 _,za0 _,h2,λe H=> ?_⟩;obtain rfl:e=0:=by omega
 rw[h4];rfl
def aLi (Q:SV->List SV->Prop):Aft:=λr bl _ _=>match r with
 | .ok s=>(match bl 0 with
   |some B=>(match B.kd with
    | .own=>bif Nat.beq B.sz 1&&(Nat.ble 1 B.n&&B.nn) then Q s (B.get 0) else False
    |_=>False)
   |none=>False)
 | .pan _=>False
theorem aLj (d:Ad3) (s:zdG) (n:Int) (Q:SV->List SV->Prop):ayw d [] (azT d) aDs 6 117 [.ptr 0 0 0,cI.enc n] [rdB s] (aLi Q)=
 aza s n (λp r=>aBx p 31 λv=>Q (cI.enc v) [.val (.string r)]) False:=by kernel_rfl
def aLK (p:Bool) (r:Nat) (v:Int) (t:List UInt8):RC:={X:=Unit,pre:=p,spec:=λ_=>True,out:=λ_=>cI.enc v,ch:=λ_=> [(r,rdB ⟨t.toArray⟩)],ex:=λ_=>⟨(),trivial⟩}
def aJ8:MCtr:=λbl _ args=>match args with
 | [.ptr r 0 0, .val (.int .i64 n)]=>(match bl r with
   |some B=>(match rdL (B.get 0) with
    |some s=>(match aL3 n s.data.toList with
     |some (v,t)=>some (aLK (aL4 B.kd&&(Nat.ble 1 B.n&&Nat.beq B.sz 1)) r v t)
     |none=>none)
    |none=>none)
   |none=>none)
 |_=>none
variable {c n:Nat} {t:List UInt8} {s:zdG}
theorem aLk {nx:Nat} {v:Int} {p:Bool} {r:Res} {bl:Nat->Option Go.Sy.Blk} {w:zdH} (h:aLi (λs l=>s=cI.enc v/\l= [.val (.string ⟨t.toArray⟩)]) r bl n w):KB (aLK p c v t) [some c] [rdB s] nx r bl n w:=by
 unfold aLi at h;split at h
 ·rename_i s;split at h
  ·rename_i B hB;split at h
   ·rename_i hk;cases H:(Nat.beq B.sz 1&&(Nat.ble 1 B.n&&B.nn)) with
    |false=>rw[H] at h;exact h.elim
    |true=>
     rw[H,zdr] at h;obtain⟨rfl,hg⟩:=h;simp only[za2] at H;obtain⟨Y,b2,b3⟩:=H;refine⟨(),trivial, [],⟨_,rfl,rfl⟩,zcA,trivial,rfl, .inl rfl, ?_,trivial⟩;simp only[hB];refine .inr ⟨hk.symm,(zab Y).symm,λ_=>b3,zak b2, ?_⟩;intro N J;obtain rfl:N=0:=by have:N<1:=J;omega
     rw[hg];rfl
   ·exact h.elim
  ·exact h.elim
 ·exact h.elim
theorem aJo {C:Go.Sy.Blk}:Kr [some c] [C]:=by
 intro j k i D H J _ _
 match j,k,H,J with
 |0,0,_,_=>rfl
 |j+1,_,H,_=>simp at H
 |_,k+1,_,J=>simp at J
theorem aKs {n v:Int} {Q:SV->List SV->Prop} (h:aL3 n s.data.toList=some (v,t)) (k:Q (cI.enc v) [.val (.string ⟨t.toArray⟩)]):aza s n (λp r=>aBx p 31 λv=>Q (cI.enc v) [.val (.string r)]) False:=by
 cases H:s.data.toList with
 |nil=>rw[H] at h;cases h
 |cons a r=>
  rw[H] at h;have hz:s.size=r.length+1:=by rw[<-bj,H];rfl
  unfold aL3 at h;dsimp only at h;cases h1:n==1 with
  |true=>
   rw[h1,zdr,za1,zag] at h;obtain⟨rfl,rfl⟩:=h;obtain rfl:n=1:=by simpa using h1
   refine vI (by decide) (λ_=> ?_) λq=>absurd (by omega) q;have p1:(s.extract 0 (1:Int).toNat).data.toList= [a]:=by rw[ayS,H];rfl
   have Y:(s.extract (1:Int).toNat s.size).data.toList=r:=by rw[ayT,H];rfl
   obtain⟨n1,N⟩:=aAv p1;refine azU (by omega) ?_;rw[N,show s.extract (1:Int).toNat s.size=⟨r.toArray⟩ from gT (by rw[Y,eI])];exact k
  |false=>
   rw[h1,zdq] at h;cases h2:n==2 with
   |false=>rw[h2] at h;cases h
   |true=>
    rw[h2,zdr] at h;obtain rfl:n=2:=by simpa using h2
    cases J:r with
    |nil=>rw[J] at h;cases h
    |cons b u=>
     rw[J] at h;simp only[za1,zag] at h;obtain⟨rfl,rfl⟩:=h;rw[J] at hz;simp only[za4] at hz;refine vI (by decide) (λ_=> ?_) λq=>absurd (by omega) q;have p1:(s.extract 0 (2:Int).toNat).data.toList= [a,b]:=by rw[ayS,H,J];rfl
     have Y:(s.extract (2:Int).toNat s.size).data.toList=u:=by rw[ayT,H,J];rfl
     obtain⟨n1,N⟩:=aCp p1;refine azU (by omega) ?_;rw[N,show s.extract (2:Int).toNat s.size=⟨u.toArray⟩ from gT (by rw[Y,eI])];exact k
variable {d:Ad3}
theorem aKt : ∀B:Base,GlobPB d B->VU prog B 117 aJ8:=aEL (GPk.of (GEk.of GOk.nil)) KE λbl nx args C H hp=>by
 unfold aJ8 at H;split at H
 ·rename_i r n;split at H
  ·rename_i B hB;split at H
   ·rename_i s hs;split at H
    ·rename_i v t hv;simp only[za1] at H;subst H;have hp:(aL4 B.kd&&(Nat.ble 1 B.n&&Nat.beq B.sz 1))=true:=hp;simp only[za2] at hp;obtain⟨J,N,Y⟩:=hp;refine⟨[some r], [rdB s], [.ptr 0 0 0,cI.enc n],aDs,6,aw (by simp only[j5,hB];exact aL5 (aKr J) (zak N) (zab Y) (aKE hs)) trivial,aJo,cd (by simp[rdB,BK.map]),rfl, ?_⟩;refine azw (K:=aLi λs l=>s=cI.enc v/\l= [.val (.string ⟨t.toArray⟩)]) ?_ λr' bl' q w h=>aLk h;rw[aLj];exact aKs (Q:=λs l=>s=cI.enc v/\l= [.val (.string ⟨t.toArray⟩)]) hv ⟨rfl,rfl⟩
    ·cases H
   ·cases H
  ·cases H
 ·cases H
structure GlobT2 (w:World):Prop where
 tk: ∀i,i<10->w.cell? ⟨0,i,none⟩=some (.int .i64 (gi i))
 pt: ∀i,i<10->w.cell? ⟨1,i,none⟩=some (.int .i64 (lj i))
variable {w w':World}
theorem GlobT2.below (h:GlobT2 w) (H:Below w.heap.size w w'):GlobT2 w':=by
 have c: ∀{b j:Nat} {v:Value},w.cell? ⟨b,j,none⟩=some v->w'.cell? ⟨b,j,none⟩=some v:=λ{b j v} e=>by
  rw[H.cell (p:=⟨b,j,none⟩) (World.block_lt_of_cell? w _ e)];exact e
 exact⟨λi hi=>c (h.tk i hi),λi hi=>c (h.pt i hi)⟩
def GlobR (d:Ad3) (w:World):Prop:=GlobP d w/\GlobT2 w
theorem GlobR.below (h:GlobR d w) (H:Below w.heap.size w w'):GlobR d w':=⟨GlobP.below h.1 H,h.2.below H⟩
def GlobRB (d:Ad3) (B:Base):Prop:= ∀w,Pres B w->GlobR d w
variable {B:Base}
theorem GlobRB.p (h:GlobRB d B):GlobPB d B:=λw H=>(h w H).1
variable {W:World}
theorem GlobRB.of (h:GlobR d W):GlobRB d W:=λw H=>h.below H.below
theorem GlobRB.sub {W:Base} (h:GlobRB d W) (s:SubB B W):GlobRB d B:=λw H=>h w (s.pres H)
def blR (Bs:zdU) (i:Nat):Option Blk:=bif Nat.beq i 0 then some tkB else bif Nat.beq i 1 then some ptB else bif Nat.blt i (14+1) then none else Bs[i - (14+1)]?
def aJ9 (βB:Nat->Go.Sy.Loc) (i:Nat):Go.Sy.Loc:=bif Nat.blt i (14+1) then⟨i,0,1,10,false⟩ else βB (i - (14+1))
variable {Bs:zdU} {i:Nat}
theorem aII {C:Blk} (h:blR Bs i=some C):(i=0/\C=tkB)\/(i=1/\C=ptB)\/ ∃j,i=14+1+j/\Bs[j]? =some C:=by
 unfold blR at h;simp only[bS,aB] at h;by_cases h1:i=0
 ·rw[zdp h1,zdr,za1] at h;exact .inl ⟨h1,h.symm⟩
 rw[zds h1,zdq] at h;by_cases h2:i=1
 ·rw[zdp h2,zdr,za1] at h;exact .inr (.inl ⟨h2,h.symm⟩)
 rw[zds h2,zdq] at h;by_cases h4:i<14+1
 ·rw[zdp h4] at h;cases h
 rw[zds h4,zdq] at h;exact .inr (.inr ⟨i - (14+1),by omega,h⟩)
theorem aL6 (hi:14+1+Bs.length<=i):blR Bs i=none:=by
 cases h:blR Bs i with
 |none=>rfl
 |some C=>
  rcases aII h with ⟨rfl,_⟩|⟨rfl,_⟩|⟨j,rfl,H⟩
  ·exact absurd hi (by omega)
  ·exact absurd hi (by omega)
  ·have:=(zaV.1 H).1;omega
variable {βB:Nat->Go.Sy.Loc}
theorem aKF (h:GlobT2 w) (hB: ∀(i:Nat) (B:Blk),Bs[i]? =some B->BlkOK βB i B w/\B.kd= .old/\ ∀e,e<B.n->SV.idss (B.get e)= []):
 ∃β:Nat->Go.Sy.Loc,BC w (blR Bs) β w/\ ∀i,β (14+1+i)=βB i:=by
 refine⟨aJ9 βB, ?_,λi=> ?_⟩
 ·have eT:aJ9 βB 0=⟨0,0,1,10,false⟩:=rfl;have eP:aJ9 βB 1=⟨1,0,1,10,false⟩:=rfl;have eB: ∀j,aJ9 βB (14+1+j)=βB j:=λj=>by
   unfold aJ9;simp only[bS,aB];rw[zds (by omega)];simp only[zdq]
   congr 1;omega
  have ok: ∀i C,blR Bs i=some C->BlkOK (aJ9 βB) i C w:=λi C H=>by
   rcases aII H with ⟨rfl,rfl⟩|⟨rfl,rfl⟩|⟨j,rfl,Y⟩
   ·exact K2 eT rfl (za0 _) (by simp[tkB]) (by decide) (λj Y=>by rw[za7,h.tk j Y];rfl) λe he=>⟨_,rfl,by rw[za7];exact h.tk e he⟩
   ·exact K2 eP rfl (za0 _) (by simp[ptB]) (by decide) (λj Y=>by rw[za7,h.pt j Y];rfl) λe he=>⟨_,rfl,by rw[za7];exact h.pt e he⟩
   ·obtain⟨q1,_,q3⟩:=hB j C Y;exact aDj q1 (eB j) q3
  have kd: ∀i C,blR Bs i=some C->C.kd.fix=true:=λi C H=>by
   rcases aII H with ⟨rfl,rfl⟩|⟨rfl,rfl⟩|⟨j,rfl,Y⟩
   ·rfl
   ·rfl
   ·rw[(hB j C Y).2.1];rfl
  have a0: ∀{i C},blR Bs i=some C->C.kd≠ .own:=λ{i C} H e=>by have:=kd i C H;rw[e] at this;cases this
  have J: ∀{i C},blR Bs i=some C->C.kd.map=true->False:=λ{i C} H e=>BK.fix_nm e (kd i C H);have e0: ∀{i C},blR Bs i=some C->C.kd.lst=true->False:=λ{i C} H e=>J H (BK.lst_map e);have g0: ∀{i C},blR Bs i=some C->C.kd.it=true->False:=λ{i C} H e=>J H (BK.it_map e);refine⟨Pres.refl _,λid C H _=>ok id C H,λid C H ho=>absurd ho (a0 H),λid C H hk hn=>⟨⟨?_,rfl⟩,λhg=> ?_⟩,λid id' C C' H _ ho _ _ _ _=>absurd ho (a0 H),λid C e o s H _ he hs=> ?_,⟨λid C H N=>(J H N).elim,λid id' C C' H _ N=>(J H N).elim,λid C e s H N=>(e0 H N).elim,λid C H N=>(g0 H N).elim⟩⟩
  ·intro N;have:=(ok id C H).lt hn;rcases N with N|N
   ·exact absurd this (Nat.not_lt.2 N)
   ·cases N
  ·rcases aII H with ⟨rfl,rfl⟩|⟨rfl,rfl⟩|⟨j,rfl,Y⟩
   ·exact⟨rfl,rfl⟩
   ·exact⟨rfl,rfl⟩
   ·rw[(hB j C Y).2.1] at hg;cases hg
  ·intro i hi;rcases aII H with ⟨rfl,rfl⟩|⟨rfl,rfl⟩|⟨j,rfl,Y⟩
   ·have hs:=zal hs;simp only[tkB,zaj] at hs;subst hs;simp[SV.ids] at hi
   ·have hs:=zal hs;simp only[ptB,zaj] at hs;subst hs;simp[SV.ids] at hi
   ·have:i∈SV.idss (C.get e):=SV.mem_idss.2 ⟨s,zal hs,hi⟩;rw[(hB j C Y).2.2 e he] at this;cases this
 ·unfold aJ9;simp only[bS,aB];rw[zds (by omega)];simp only[zdq]
  congr 1;omega
structure MRk (d:Ad3) (gm:List (FuncId×MCtr)):Prop where
 all: ∀B:Base,GlobRB d B-> ∀p∈gm,VU prog B p.1 p.2
variable {gm:zdW}
theorem MRk.of (h:MPk d gm):MRk d gm:=⟨λB hB=>h.all B hB.p⟩
variable {F:FuncId}
theorem MRk.cons {k:MCtr} (h:MRk d gm) (H: ∀B:Base,GlobRB d B->VU prog B F k):MRk d ((F,k)::gm):=⟨λB hB p hp=>by
 rcases zai.1 hp with rfl|hp
 ·exact H B hB
 ·exact h.all B hB p hp⟩
variable {g:List (FuncId×Ctr)}
theorem aMy (hg:GPk g) (H:MRk d gm) (hB:GlobRB d B):HypD prog B (iR M9) (gw g) (gx gm) (ax8 d):=
 have h:Hyp prog B (iR M9) (gw g) (gx gm):=mW (λp hp=>⟨CtrOK.base λw J=>(hg.all d w (hB w J).1 p hp).1,(hg.all d B.w (hB B.w (Pres.self B)).1 p hp).2⟩) (λB' s=>H.all B' (hB.sub s)) aAj (by kernel_rfl)
 ⟨h.gam,h.mem,(aCW (GPk.of (GEk.of GOk.nil)) (MPk.of (MEk.nil (a:=d.e))) hB.p).dem,h.ok,h.mixed⟩
def aLl (d:Ad3) (g:List (FuncId×Ctr)) (gm:zdW) (ann:zdV) (n:Nat) (f:FuncId) (args:zdJ) (Bs:zdU) (K:zdR):Prop:=Ay prog (iR M9) (gw g) (gx gm) (ax8 d) ann n f args (blR Bs) (14+1+Bs.length) [] (Go.Sy.okK λr _ _ _=>K r)
theorem aLL (hg:GPk g) (hm:MRk d gm) (J:GlobR d W) {ann:zdV} {args:zdJ} {r0:SV} {v:Value} (hv: ∀β,r0.conc β=v) (hB: ∀(i:Nat) (B:Blk),Bs[i]? =some B->BlkOK βB i B W/\B.kd= .old/\ ∀e,e<B.n->SV.idss (B.get e)= [])
 (hl: ∀s∈args,∀i∈s.ids,∃j,i=14+1+j/\j<Bs.length) (h:aLl d g gm ann n F args Bs λr=>r=r0):
 ∃β:Nat->Go.Sy.Loc,(∀i,β (14+1+i)=βB i)/\Calls prog F (SV.concs β args).toArray W λe w'=>e= .returned v/\Below W.heap.size W w':=by
 obtain⟨β,H,hβ⟩:=aKF J.2 hB;refine⟨β,hβ, ?_⟩;unfold aLl at h
 obtain⟨_,Y⟩:=sU (aMy hg hm (GlobRB.of J)) ann n F args (blR Bs) (14+1+Bs.length) [] _ β W h H (λi hi=>aL6 hi) (λs hs i hi=>by
  obtain⟨j,rfl,hj⟩:=hl s hs i hi;unfold blR;simp only[bS,aB];rw[zds (by omega),zds (by omega),zds (by omega)];simp only[zdq]
  rw[show 14+1+j - (14+1)=j by omega,zaa hj];simp)
 refine Calls.mono Y ?_;rintro e w' ⟨β',s,bl',a0,e0,he,N,H,_⟩;cases s with
 |pan v=>exact N.elim
 |ok s=>
 obtain rfl:e=_:=he;obtain rfl:s=_:=N;exact⟨by rw[hv],H.below.below⟩
def aLM:List (FuncId×Ctr):=(31,k1 cR cS rV λv=>cu (0,0,v))::(32,k2 cI cI cS (λn b=>decide (1<=n)&&decide (0<=b)) λn b=>cu (n,b,noR))::(29,k2 cI cI cI (λc n=>cl c&&decide (0<n)) co)::qH
theorem aLm:GPk aLM:=((aDU.cons (λd W H=>aCI H) call29).cons (λd W H=>aEl H) call32).cons (λd W H=>aEk H) call31
theorem aLn (d:Ad3) (I:MX11->Prop) (J:NX11->Prop) (xs:List (Int×Int)) (K:zdR):aLl d aLM [] (aCE I J λ_ _=>none) 12 8 [.slc (14+1) 0 xs.length] [e2.old xs] K=aDJ (14+1) I J xs (λc=>K (cS.enc c)) (λc=>K (cS.enc c)):=by kernel_rfl
def u2P (x:Int×Int):Bool:=cl x.1&&cl x.2
def aKG:MCtr:=λbl _ args=>match args with
 | [s]=>(match vW bl 2 s with
   |some (b,_,n,g)=>some {X:=Unit,pre:=b&&e2.good u2P n g,spec:=λ_=>True,out:=λ_=>cS.enc (mdF (e2.list n g)),ex:=λ_=>⟨(),trivial⟩}
   |none=>none)
 |_=>none
theorem aKH : ∀B:Base,GlobRB d B->VU prog B 8 aKG:=λB hB bl β w nx args C H hit i0 j0 J hp=>by
 unfold aKG at J;split at J
 ·rename_i s;split at J
  ·rename_i b o n g hs;simp only[za1] at J;subst J;simp only[za2] at hp;obtain⟨rfl,hg⟩:=hp;obtain⟨t1,t2⟩:=cq (E:=e2) (f:=rnF [o] [] nx) hs hg;have e0: ∀C∈ [e2.old (e2.list n g)],cN C.kd=false:=by simp[cN,El.old]
   have Y:SV.rns (rnF [o] [] nx) [.slc 0 0 (e2.list n g).length]=some [s]:=aIy (t2 0 rfl) rfl;have a0:=NI H (src:= [o]) (Cs:= [e2.old (e2.list n g)]) (aw t1 trivial) (bH e0) (cd (by simp[El.old,BK.map]));have g0:GlobR d w:=hB w H.below
   obtain⟨β',hβ',hc⟩:=aLL aLm (MRk.of (MPk.of (MEk.nil (a:=d.e)))) g0 (ann:=aCE (MI11 (e2.list n g)) (NI11 (e2.list n g)) λ_ _=>none) (n:=12) (F:=8) (args:= [.slc (14+1) 0 (e2.list n g).length]) (Bs:= [e2.old (e2.list n g)]) (βB:=ie β [o] [e2.old (e2.list n g)]) (r0:=cS.enc (mdF (e2.list n g))) (v:= .string (mdF (e2.list n g))) (λ_=>rfl) (λi B N=>by
    cases i with
    |zero=>
     obtain rfl:=zbj N;exact⟨a0.blk 0 _ rfl (by simp[El.old]),rfl,λe _=>e2.ids _⟩
    |succ i=>simp at N) (λs hs i hi=>by
    simp only[zai,zbw,or_false] at hs;subst hs;have:i=14+1:=by simpa [SV.ids] using hi
    exact⟨0,by omega,Nat.zero_lt_succ _⟩) (by
    rw[aLn]
    exact T7 (λp hp=>by have:=El.good_list hg p hp;unfold u2P at this;rw[za2] at this;exact this) rfl rfl)
   have ea:SV.concs β [s]=SV.concs β' [.slc (14+1) 0 (e2.list n g).length]:=by
    rw[(rns_conc lO Y).1];have h0:β' (14+1)=ie β [o] [e2.old (e2.list n g)] 0:=hβ' 0;simp only[SV.concs];unfold SV.conc addr;rw[h0]
   rw[ea];refine Calls.mono hc ?_;rintro e w' ⟨rfl,hb⟩;obtain⟨g1,g2,g3⟩:=abx (s:=cS.enc (mdF (e2.list n g))) H i0 rfl hb;exact⟨(),trivial,β,rfl,g1,g2,g3⟩
  ·cases J
 ·cases J
def tmS (x:Int×RS):zdJ:= [.val (.int .i64 x.1), .val (.string x.2.1), .val (.string x.2.2)]
def aMU:List SV->Int×RS
 | [.val (.int .i64 a), .val (.string b), .val (.string c)]=>(a,b,c)
 |_=>(0,aFn)
def eTm:El (Int×RS):={sz:=3,sv:=tmS,of:=aMU,d:=(0,aFn),rt:=λ_=>rfl,ids:=λ_=>rfl,len:=λ_=>rfl,one:=by decide}
def uzT (x:Int×RS):Bool:=cl x.1&&uzR x.2
def zero8:RS:=(rMk 0 1).1
def aIN (e:Int) (f:Bool):Bool:=bif e !=0 then true else f
def aJS (a:RS):RS:=bif decide (b9 a zero8<0) then(iF zero8 a).1 else a
def aKI (a:RS):Int:=bif decide (b9 a zero8<0) then(iF zero8 a).2 else 0
def aJj (f:Bool):Go.Sy.Blk:={n:=1,sz:=1,get:=λ_=> [.val (.bool f)],kd:= .own}
def aKJ:List SV->Option Bool
 | [.val (.bool f)]=>some f
 |_=>none
def aMV:BK->Bool
 | .own=>true
 |_=>false
def aKk (bl:Nat->Option Go.Sy.Blk) (c:Nat):Option (Bool×Bool):=match bl c with
 |some B=>(match aKJ (B.get 0) with
  |some f=>some (aMV B.kd&&(Nat.ble 1 B.n&&Nat.beq B.sz 1),f)
  |none=>none)
 |none=>none
variable {f:Bool}
theorem aKa {l:zdJ} (h:aKJ l=some f):l= [.val (.bool f)]:=by
 unfold aKJ at h;split at h
 ·simp only[za1] at h;subst h;rfl
 ·cases h
theorem aJp {bl:Nat->Option Go.Sy.Blk} {c:Nat} (h:aKk bl c=some (true,f)): ∃B,bl c=some B/\B.kd= .own/\1<=B.n/\B.sz=1/\B.get 0= [.val (.bool f)]:=by
 unfold aKk at h;split at h
 ·rename_i B hB;split at h
  ·rename_i g hg;simp only[za1,zag,za2] at h;obtain⟨⟨h1,h2,h3⟩,rfl⟩:=h;refine⟨B,hB, ?_,zak h2,zab h3,aKa hg⟩;cases H:B.kd<;>rw[H] at h1<;>first|rfl|cases h1
  ·cases h
 ·cases h
theorem aKl {f:zdX} {B:Go.Sy.Blk} {b:Bool} (h1:B.kd= .own) (h2:1<=B.n) (h3:B.sz=1) (h4:B.get 0= [.val (.bool b)]):wB f (aJj b) B:=by
 refine⟨h3.symm,λ_=> .inr (za0 _), ?_⟩;show B.kd= .own/\1<=1/\1<=1/\1<=B.n/\ ∀e,e<1->SV.rns f [.val (.bool b)]=some (B.get e);refine⟨h1,za0 _,za0 _,h2,λe H=> ?_⟩;obtain rfl:e=0:=by omega
 rw[h4];rfl
theorem aLo {a:RS} (h:uzR a=true):uzR (aJS a)=true:=by
 unfold aJS;cases decide (b9 a zero8<0) with
 |true=>exact Lr _ _
 |false=>exact h
theorem aKK (d:Ad3) (c n:Int) (K:zdR):my d [] [] (λ_ _=>none) 3 129 [cI.enc c,cI.enc n] K=az2 c n K:=by kernel_rfl
variable {d:Ad3} {W:World}
theorem aLp (H:GlobP d W):CtrOK prog W 129 (k2 cI cI cI (λc n=>cl c&&decide (0<n)) co):=bC λc n h=>by
 rw[za2] at h;exact gn aDl (MPk.of MEk.nil) H (ann:=λ_ _=>none) (n:=3) de (cI.ids _) (by rw[aKK];exact az3 (K:=λr=>r=_) h.1 (zdu h.2) rfl)
theorem aKL (d:Ad3) (c n:Int) (K:zdR):my d [] [] (λ_ _=>none) 3 139 [cI.enc c,cI.enc n] K=az2 c n K:=by kernel_rfl
theorem aLq (H:GlobP d W):CtrOK prog W 139 (k2 cI cI cI (λc n=>cl c&&decide (0<n)) co):=bC λc n h=>by
 rw[za2] at h;exact gn aDl (MPk.of MEk.nil) H (ann:=λ_ _=>none) (n:=3) de (cI.ids _) (by rw[aKL];exact az3 (K:=λr=>r=_) h.1 (zdu h.2) rfl)
theorem aKu (d:Ad3) (n:Int) (K:zdR):my d qH [] (λ_ _=>none) 4 132 [cI.enc n] K=ah (cl n&&cl 1) (K (cR.enc (rMk n 1).1)):=by kernel_rfl
theorem aL7 (H:GlobP d W):CtrOK prog W 132 (k1 cI cR cl λn=>(rMk n 1).1):=dD λn h=>
 gn aDU (MPk.of MEk.nil) H (ann:=λ_ _=>none) (n:=4) m8 (cR.ids _) (by rw[aKu];exact ac (by rw[h];rfl) rfl)
def gA8:List (FuncId×Ctr):=(129,k2 cI cI cI (λc n=>cl c&&decide (0<n)) co)::(139,k2 cI cI cI (λc n=>cl c&&decide (0<n)) co)::(132,k1 cI cR cl λn=>(rMk n 1).1)::qH
theorem aI6:GPk gA8:=((aDU.cons (λd W H=>aL7 H) call132).cons (λd W H=>aLq H) call139).cons (λd W H=>aLp H) call129
def aMz (x:Iv) (k:Int) (K:zdR):Prop:=ah (uzR x.2&&uzR x.1) (ah (cl k&&decide ((0:Int)<101)) (ah (cl (co k 101)&&cl 100) (ah (uzR (iF x.2 x.1).1&&uzR (rMk (co k 101) 100).1) (ah (uzR x.1&&uzR (ale (iF x.2 x.1).1 (rMk (co k 101) 100).1).1)
 (K (cR.enc (fZ x.1 (ale (iF x.2 x.1).1 (rMk (co k 101) 100).1).1).1))))))
theorem aLr (d:Ad3) (x:Iv) (k:Int) (K:zdR):my d gA8 [] (λ_ _=>none) 5 49 [cIv.enc x,cI.enc k] K=aMz x k K:=by kernel_rfl
def aLs (x:Iv) (k:Int):RS:=(fZ x.1 (ale (iF x.2 x.1).1 (rMk (co k 101) 100).1).1).1
theorem aKM (H:GlobP d W):CtrOK prog W 49 (k2 cIv cI cR (λx k=>uzI x&&cl k) aLs):=bC λx k h=>by
 unfold uzI at h;simp only[za2] at h;obtain⟨⟨h1,h2⟩,h3⟩:=h;have hp:=gR k (show (0:Int)<101 by decide)
 exact gn aI6 (MPk.of MEk.nil) H (ann:=λ_ _=>none) (n:=5) de (cR.ids _) (by
  rw[aLr];refine ac (by rw[h1,h2];rfl) (ac (by rw[h3];rfl) (ac (by rw[V4.2 (show B64 (co k 101) from⟨by omega,by omega⟩)];rfl) (ac (by rw[Lr,alg];rfl) (ac (by rw[h1,gI];rfl) rfl))))
  )
def KC8 (Q:SV->List SV->Prop):Aft:=λr bl _ _=>match r with
 | .ok s=>(match bl 0 with
   |some B=>(match B.kd with
    | .own=>bif Nat.beq B.sz 1&&(Nat.ble 1 B.n&&B.nn) then Q s (B.get 0) else False
    |_=>False)
   |none=>False)
 | .pan _=>False
def aLt (p:Bool) (r:RS×Int) (f:Bool) (Q:SV->List SV->Prop):Prop:=ah p (ag (r.2 !=0) (Q (cR.enc r.1) [.val (.bool true)]) (Q (cR.enc r.1) [.val (.bool f)]))
theorem aKv (d:Ad3) (a b:RS) (f:Bool) (Q:SV->List SV->Prop):ayw d gA8 [] (λ_ _=>none) 6 134 [.ptr 0 0 0,cR.enc a,cR.enc b] [aJj f] (KC8 Q)=aLt (uzR a&&uzR b) (fZ a b) f Q:=by kernel_rfl
theorem aKw (d:Ad3) (a b:RS) (f:Bool) (Q:SV->List SV->Prop):ayw d gA8 [] (λ_ _=>none) 6 224 [.ptr 0 0 0,cR.enc a,cR.enc b] [aJj f] (KC8 Q)=aLt (uzR a&&uzR b) (iF a b) f Q:=by kernel_rfl
theorem aKx (d:Ad3) (a b:RS) (f:Bool) (Q:SV->List SV->Prop):ayw d gA8 [] (λ_ _=>none) 6 135 [.ptr 0 0 0,cR.enc a,cR.enc b] [aJj f] (KC8 Q)=aLt (uzR a&&uzR b) (ale a b) f Q:=by kernel_rfl
def aKN (p:Bool) (c:Nat) (out:RS) (e:Int) (f:Bool):RC:={X:=Unit,pre:=p,spec:=λ_=>True,out:=λ_=>cR.enc out,ch:=λ_=> [(c,aJj (aIN e f))],ex:=λ_=>⟨(),trivial⟩}
def aJ2 (op:RS->RS->RS×Int):MCtr:=λbl _ args=>match args with
 | [.ptr c 0 0,x,y]=>(match cR.dec x,cR.dec y,aKk bl c with
   |some a,some b,some (w,f)=>some (aKN (w&&(uzR a&&uzR b)) c (op a b).1 (op a b).2 f)
   |_,_,_=>none)
 |_=>none
variable {e:Int} {f:Bool}
theorem aKO {c nx:Nat} {out:RS} {p:Bool} {r:Res} {bl:Nat->Option Go.Sy.Blk} {n:Nat} {w:zdH} (h:KC8 (λs l=>s=cR.enc out/\l= [.val (.bool (aIN e f))]) r bl n w):KB (aKN p c out e f) [some c] [aJj f] nx r bl n w:=by
 unfold KC8 at h;split at h
 ·rename_i s;split at h
  ·rename_i B hB;split at h
   ·rename_i hk;cases H:(Nat.beq B.sz 1&&(Nat.ble 1 B.n&&B.nn)) with
    |false=>rw[H] at h;exact h.elim
    |true=>
     rw[H,zdr] at h;obtain⟨rfl,hg⟩:=h;simp only[za2] at H;obtain⟨Y,b2,b3⟩:=H;refine⟨(),trivial, [],⟨_,rfl,rfl⟩,zcA,trivial,rfl, .inl rfl, ?_,trivial⟩;simp only[hB];refine .inr ⟨hk.symm,(zab Y).symm,λ_=>b3,zak b2, ?_⟩;intro N J;obtain rfl:N=0:=by have:N<1:=J;omega
     rw[hg];rfl
   ·exact h.elim
  ·exact h.elim
 ·exact h.elim
theorem aMW {Q:SV->List SV->Prop} {s:SV} (h:Q s [.val (.bool (aIN e f))]):ag (e !=0) (Q s [.val (.bool true)]) (Q s [.val (.bool f)]):=by
 unfold aIN at h;exact bI (λq=>by rw[q] at h;exact h) λq=>by rw[q] at h;exact h
theorem aJq {F:FuncId} {op:RS->RS->RS×Int} (vc: ∀(d:Ad3) (a b:RS) (f:Bool) (Q:SV->List SV->Prop),ayw d gA8 [] (λ_ _=>none) 6 F [.ptr 0 0 0,cR.enc a,cR.enc b] [aJj f] (KC8 Q)=aLt (uzR a&&uzR b) (op a b) f Q) : ∀B:Base,GlobPB d B->VU prog B F (aJ2 op):=aEL aI6 (MPk.of MEk.nil) λbl nx args C H hp=>by
 unfold aJ2 at H;split at H
 ·rename_i c x y;split at H
  ·rename_i a b w f ha hb hc;simp only[za1] at H;subst H;have hp:(w&&(uzR a&&uzR b))=true:=hp;rw[za2] at hp;obtain⟨rfl,h2⟩:=hp;obtain rfl:=cR.ok _ _ ha;obtain rfl:=cR.ok _ _ hb;obtain⟨B,J,N,Y,b4,b5⟩:=aJp hc;refine⟨[some c], [aJj f], [.ptr 0 0 0,cR.enc a,cR.enc b],λ_ _=>none,6,aw (by simp only[j5,J];exact aKl N Y b4 b5) trivial,aJo,cd (by simp[aJj,BK.map]),rfl, ?_⟩;refine azw (K:=KC8 λs l=>s=cR.enc (op a b).1/\l= [.val (.bool (aIN (op a b).2 f))]) ?_ λr bl' q w h=>aKO h;rw[vc];exact ac h2 (aMW (Q:=λs l=>s=cR.enc (op a b).1/\l= [.val (.bool (aIN (op a b).2 f))]) ⟨rfl,rfl⟩)
  ·cases H
 ·cases H
def aL8:zdW:= [(134,aJ2 fZ),(224,aJ2 iF),(135,aJ2 ale)]
theorem aKm:MPk d aL8:=(((MPk.of MEk.nil).cons (aJq aKx)).cons (aJq aKw)).cons (aJq aKv)
def aMA (a:RS) (f:Bool) (Q:SV->List SV->Prop):Prop:=ah (uzR a&&uzR zero8) (ag (decide (b9 a zero8<0)) (ah (true&&(uzR zero8&&uzR a)) (Unit->True->Q (cR.enc (iF zero8 a).1) [.val (.bool (aIN (iF zero8 a).2 f))])) (Q (cR.enc a) [.val (.bool f)]))
theorem aKy (d:Ad3) (a:RS) (f:Bool) (Q:SV->List SV->Prop):ayw d gA8 aL8 (λ_ _=>none) 6 136 [.ptr 0 0 0,cR.enc a] [aJj f] (KC8 Q)=aMA a f Q:=by kernel_rfl
def aLN (I:Int->Prop) (N:Int):zdV:=λf k=>bif Nat.beq f 133&&Nat.beq k 2 then some (λ_=>{X:=Int,inv:=I,tm:=λx=> [(5, .val (.int .i64 x))],mu:=λx=>(N - x).toNat,keep:= [0,1]}) else none
def aMB (n:Nat) (src i z:Int):Prop:=(TV.v (cI.enc i)=TV.v (cI.enc z)/\TV.v (.slc 0 0 n)=TV.v (.slc 0 0 n)/\TV.v (cI.enc src)=TV.v (cI.enc src)/\True)/\(True/\(True/\True))
def aMC (I:Int->Prop) (N:Int) (l:List (Int×RS)) (src:Int) (Q:zdR):Prop:= ∃J:Int,I J/\(aMB l.length src 0 J/\ ∀z:Int,I z->ag (decide (z<(l.length:Int)))
 (eO l.length z (ag ((eTm.nth l (0+z.toNat)).1==src) (Q (cI.enc z)) (ah (inR .i64 (z+1)) (∃H:Int,I H/\((N - H).toNat<(N - z).toNat/\aMB l.length src (z+1) H))))) (Q (cI.enc (-1))))
theorem aMD (d:Ad3) (I:Int->Prop) (N:Int) (l:List (Int×RS)) (src:Int) (Q:zdR):ayw d gA8 [] (aLN I N) 5 133 [.slc 0 0 l.length,cI.enc src] [eTm.old l] (Go.Sy.okK λr _ _ _=>Q r)=aMC I N l src Q:=by kernel_rfl
def fmS (c r:RS) (s:SV):SV:= .agg [.val (.string c.1), .val (.string c.2),s, .val (.string r.1), .val (.string r.2)]
def aLO (I:Int->Prop) (N:Int):zdV:=λf k=>bif Nat.beq f 130&&Nat.beq k 6 then some (λ_=>{X:=Int,inv:=I,tm:=λx=> [(5, .val (.int .i64 x))],mu:=λx=>(N - x).toNat,keep:= [1]}) else none
def aLP (I:Int->Prop) (N:Int):zdV:=λf k=>bif Nat.beq f 131&&Nat.beq k 4 then some (λ_=>{X:=Int,inv:=I,tm:=λx=> [(3, .val (.int .i64 x))],mu:=λx=>(N - x).toNat,keep:= [0]}) else none
abbrev A6:=Int×Int×Int×Int×Int×Int
def a6L (a:A6):zdJ:= [.val (.int .i64 a.1), .val (.int .i64 a.2.1), .val (.int .i64 a.2.2.1), .val (.int .i64 a.2.2.2.1), .val (.int .i64 a.2.2.2.2.1), .val (.int .i64 a.2.2.2.2.2)]
def a6N (a:A6):Nat->Int
 |0=>a.1
 |1=>a.2.1
 |2=>a.2.2.1
 |3=>a.2.2.2.1
 |4=>a.2.2.2.2.1
 |_=>a.2.2.2.2.2
def q8 (a:Int):Int:=co a 17 - 8
def aIx (a:A6):Nat->List (Int×RS)
 |0=> []
 |k+1=>bif (bif q8 (a6N a k) !=0 then decide (((aIx a k).length:Int)<5) else false) then aIx a k++ [(1+(k:Int),(rMk (q8 (a6N a k)) 4).1)] else aIx a k
def aI4 (c:Int):RS:=(rMk (co c 161 - 80) 4).1
def aJd (c:Int):RS:=(rMk (co c 9) 4).1
def rowT (A:AS) (t:Nat):zdJ:=af8 A (idC A t)
where
 idC (A:AS) (t:Nat):Nat:=match A.tm t with
  | .v (.ptr b _ _)=>b
  |_=>0
 af8 (A:AS) (b:Nat):zdJ:=match A.bl b with
  |some B=>B.get 0
  |none=> []
abbrev M8:=Int×List (Int×RS)
def aLQ (I:M8->Prop):zdV:=λf k=>bif Nat.beq f 47&&Nat.beq k 5 then some (λA=>{X:=M8,inv:=I,tm:=λx=> [(8, .val (.int .i64 x.1))],st:= [(rowT.idC A 7,λx=>(rowT A 7).take 2++(SV.slc A.nx 0 x.2.length::(rowT A 7).drop 3))],gr:= [{src:= .cell (rowT.idC A 7) 0 2,sz:=3,n:=λx=>x.2.length,get:=λx=>eTm.get x.2}],cleanG:=λg hg x e=>(by simp at hg;subst hg;exact eTm.ids _),mu:=λx=>(7 - x.1).toNat,keep:= [5,6,7],sp:= [λx=>(0,x.2),λx=>(1,x.2),λx=>(2,x.2),λx=>(3,x.2),λx=>(4,x.2),λx=>(5,x.2),λx=>(6,x.2)]}) else none
def aLu (c r:RS) (s:SV):zdJ:= [.val (.string c.1), .val (.string c.2),s, .val (.string r.1), .val (.string r.2)]
def aL9 (Q:Nat->Nat->Go.Sy.Blk->List SV->List SV->Prop):Aft:=λr bl _ _=>match r with
 | .ok (.agg (a::b:: .slc i 0 n::rest))=>(match bl i with
   |some B=>Q i n B [a,b] rest
   |none=>False)
 |_=>False
def rs2 (a:RS):zdJ:= [.val (.string a.1), .val (.string a.2)]
def aLR (d:Ad3) (I:M8->Prop) (c r:Int) (a:A6) (Q:Nat->Nat->Go.Sy.Blk->List SV->List SV->Prop):Prop:=ayw d gA8 [] (aLQ I) 6 47 [cI.enc c,cI.enc r, .agg (a6L a)] [] (aL9 Q)
def aKn (l:List (Int×RS)) (v:Int×RS):zdM:=ald (eTm.get l) (λe=>((tmS v).drop (e*3)).take 3) l.length 0
def aMa (n:Nat) (K:Prop):Prop:=ah (decide (0<1)&&decide (0+1<=1)&&decide (n<=n)&&decide ((n+1)*40<=140737488355328)&&true) K
def aMX (c r:Int) (p1 H J q:Nat) (i:Int) (m:Nat) (g:zdM) (z:M8):Prop:=(TV.v (cI.enc i)=TV.v (cI.enc z.1)/\TV.v (.ptr p1 0 0)=TV.v (.ptr p1 0 0)/\TV.v (.ptr H 0 0)=TV.v (.ptr H 0 0)/\TV.v (.ptr J 0 0)=TV.v (.ptr J 0 0)/\True)/\(True/\((aLu (aI4 c) (aJd r) (.slc q 0 m)=aLu (aI4 c) (aJd r) (.slc q 0 z.2.length)/\True)/\(ah (Nat.beq 3 3&&decide (z.2.length<=m)) (∀e,e<z.2.length->g e=eTm.get z.2 e)/\True)))
def aME (I:M8->Prop) (c r:Int) (p1 J N q j:Nat) (x:M8) (m:Nat) (g:zdM):Prop:= ∃H:M8,I H/\((7 - H.1).toNat<(7 - (j:Int)).toNat/\aMX c r p1 J N q ((j:Int)+1) m g H)
def aKb (I:M8->Prop) (c r:Int) (p1 H J N Y j:Nat) (a:Int) (x:M8):Prop:=ah (cl a&&decide ((0:Int)<17)) (ah (inR .i64 (q8 a)) (ag (bif q8 a !=0 then decide ((x.2.length:Int)<5) else false)
 (ah (cl (q8 a)&&cl 4) (aMa x.2.length (aME I c r p1 H J Y j x (x.2.length+1) (aKn x.2 (1+(j:Int),(rMk (q8 a) 4).1))))) (aME I c r p1 H J N j x x.2.length (eTm.get x.2))))
def aMF (I:M8->Prop) (c r:Int) (a:A6) (p1 H J N Y:Nat) (Q:Nat->Nat->Go.Sy.Blk->List SV->List SV->Prop):Prop:=ah (cl c&&decide ((0:Int)<161)) (ah (inR .i64 (co c 161 - 80)) (ah (cl (co c 161 - 80)&&cl 4) (ah (cl r&&decide ((0:Int)<9)) (ah (cl (co r 9)&&cl 4)
 (∃x0:M8,I x0/\(((TV.v (cI.enc 0)=TV.v (cI.enc x0.1)/\TV.v (.ptr p1 0 0)=TV.v (.ptr p1 0 0)/\TV.v (.ptr H 0 0)=TV.v (.ptr H 0 0)/\TV.v (.ptr J 0 0)=TV.v (.ptr J 0 0)/\True)/\(True/\((aLu (aI4 c) (aJd r) (.val (.slice none 0 0))=aLu (aI4 c) (aJd r) (.val (.slice none x0.2.length 0))/\True)/\(x0.2.length=0/\True))))/\
   ((∀x:M8,I x->(0,x.2)=x\/(1,x.2)=x\/(2,x.2)=x\/(3,x.2)=x\/(4,x.2)=x\/(5,x.2)=x\/(6,x.2)=x\/False)/\
   ((∀x:M8,I (0,x.2)->aKb I c r p1 H J N Y 0 a.1 x)/\((∀x:M8,I (1,x.2)->aKb I c r p1 H J N Y 1 a.2.1 x)/\((∀x:M8,I (2,x.2)->aKb I c r p1 H J N Y 2 a.2.2.1 x)/\((∀x:M8,I (3,x.2)->aKb I c r p1 H J N Y 3 a.2.2.2.1 x)/\((∀x:M8,I (4,x.2)->aKb I c r p1 H J N Y 4 a.2.2.2.2.1 x)/\((∀x:M8,I (5,x.2)->aKb I c r p1 H J N Y 5 a.2.2.2.2.2 x)/\
   ((∀x:M8,I (6,x.2)->Q N x.2.length {n:=x.2.length,sz:=3,get:=eTm.get x.2,kd:= .own,nn:=false} (rs2 (aI4 c)) (rs2 (aJd r)))/\True))))))))))))))
theorem aMb (d:Ad3) (I:M8->Prop) (c r:Int) (a:A6) (Q:Nat->Nat->Go.Sy.Blk->List SV->List SV->Prop):aLR d I c r a Q=aMF I c r a 0 1 3 23 55 Q:=by kernel_rfl
theorem aLS (a:Int): -8<=q8 a/\q8 a<=8:=by
 have:=gR a (show (0:Int)<17 by decide);unfold q8;omega
theorem aJr (a:A6): ∀k,(aIx a k).length<=k
 |0=>za0 _
 |k+1=>by
  have:=aJr a k;unfold aIx;cases (bif q8 (a6N a k) !=0 then decide (((aIx a k).length:Int)<5) else false) with
  |true=>rw[zdr,za3];show _+1<=_;omega
  |false=>rw[zdq];omega
def aID (a:A6):Nat->List (Int×RS)
 |0=> []
 |k+1=>aID a k++ [(1+(k:Int),(rMk (q8 (a6N a k)) 8).1)]
theorem aJs (a:A6): ∀k,(aID a k).length=k
 |0=>rfl
 |k+1=>by unfold aID;rw[za3,aJs a k];rfl
theorem aJT (a:A6): ∀k,k<=100-> ∀t∈aIx a k,uzT t=true
 |0,_,t,h=>by cases h
 |k+1,J,t,h=>by
  unfold aIx at h;cases H:(bif q8 (a6N a k) !=0 then decide (((aIx a k).length:Int)<5) else false) with
  |true=>
   rw[H,zdr] at h;rcases za8.1 h with h|h
   ·exact aJT a k (by omega) t h
   ·rw[zaj.1 h];unfold uzT;rw[V4.2 (show B64 (1+(k:Int)) from⟨by omega,by omega⟩),alg];rfl
  |false=>rw[H,zdq] at h;exact aJT a k (by omega) t h
theorem aKo (a:A6): ∀k,k<=100-> ∀t∈aID a k,uzT t=true
 |0,_,t,h=>by cases h
 |k+1,H,t,h=>by
  unfold aID at h;rcases za8.1 h with h|h
  ·exact aKo a k (by omega) t h
  ·rw[zaj.1 h];unfold uzT;rw[V4.2 (show B64 (1+(k:Int)) from⟨by omega,by omega⟩),alg];rfl
variable {l:List (Int×RS)}
theorem aJO {v:Int×RS} {e:Nat} (H:e<l.length+1):aKn l v e=eTm.get (l++ [v]) e:=by
 unfold aKn ald El.get El.nth;rw[aB];show _=tmS (mb (0,aFn) (l++ [v]) e);rw[aS];by_cases h:e<l.length
 ·rw[zdp h,if_neg (by omega)];rfl
 ·obtain rfl:e=l.length:=by omega
  rw[zds h,if_pos rfl,zaJ];rfl
variable {n:Nat} {K:Prop}
theorem aKp (h:n<=1000000) (k:K):aMa n K:=ac (by
 rw[zdp (Nat.zero_lt_one),zdp (show 0+1<=1 by omega),zdp (za0 n),zdp (show (n+1)*40<=140737488355328 by omega)];rfl) k
def MI8 (a:A6) (x:M8):Prop:=0<=x.1/\x.1<=6/\x.2=aIx a x.1.toNat
def uA6 (a:A6):Bool:=cl a.1&&(cl a.2.1&&(cl a.2.2.1&&(cl a.2.2.2.1&&(cl a.2.2.2.2.1&&cl a.2.2.2.2.2))))
variable {a:A6}
theorem aLT (h:uA6 a=true): ∀k,cl (a6N a k)=true:=by
 unfold uA6 at h;simp only[za2] at h;obtain⟨h0,h1,h2,h3,h4,h5⟩:=h;intro k
 match k with
 |0=>exact h0
 |1=>exact h1
 |2=>exact h2
 |3=>exact h3
 |4=>exact h4
 |_+5=>exact h5
variable {c r:Int} {p1 p2 p3 q0 q1 j:Nat} {x:M8}
theorem aIY (hj:j<6) (Y:uA6 a=true) (N:x.2=aIx a j):aKb (MI8 a) c r p1 p2 p3 q0 q1 j (a6N a j) x:=by
 have hb:=aLS (a6N a j);have hl:=aJr a j;have H:aIx a (j+1)=bif (bif q8 (a6N a j) !=0 then decide ((x.2.length:Int)<5) else false) then x.2++ [(1+(j:Int),(rMk (q8 (a6N a j)) 4).1)] else x.2:=by rw[N];rfl
 refine ac (by rw[aLT Y];rfl) (ac (ej (by omega) (by omega)) (bI (λh=> ?_) λh=> ?_))
 ·rw[h,zdr] at H;refine ac (by rw[V4.2 (show B64 (q8 (a6N a j)) from⟨by omega,by omega⟩)];rfl) (aKp (by rw[N];omega) ⟨((j:Int)+1,aIx a (j+1)),⟨by dsimp only;omega,by dsimp only;omega,by dsimp only;rw[show ((j:Int)+1).toNat=j+1 by omega]⟩,by dsimp only;omega,⟨⟨rfl,rfl,rfl,rfl,trivial⟩,trivial,⟨?_,trivial⟩, ?_,trivial⟩⟩)
  ·dsimp only;rw[H,za3];rfl
  ·dsimp only;rw[H];exact ac (by rw[za3,za6,zdp (za0 _)];rfl) λe J=>aJO (by rw[za3,za6] at J;exact J)
 ·rw[h,zdq] at H;refine⟨((j:Int)+1,aIx a (j+1)),⟨by dsimp only;omega,by dsimp only;omega,by dsimp only;rw[show ((j:Int)+1).toNat=j+1 by omega]⟩,by dsimp only;omega,⟨⟨rfl,rfl,rfl,rfl,trivial⟩,trivial,⟨?_,trivial⟩, ?_,trivial⟩⟩
  ·dsimp only;rw[H]
  ·dsimp only;rw[H];exact ac (by rw[zdp (za0 _)];rfl) λe J=>rfl
theorem aKz {Q:Nat->Nat->Go.Sy.Blk->List SV->List SV->Prop} (J:cl c=true) (N:cl r=true) (H:uA6 a=true) (k:Q q0 (aIx a 6).length (eTm.own (aIx a 6)) (rs2 (aI4 c)) (rs2 (aJd r))):aMF (MI8 a) c r a p1 p2 p3 q0 q1 Q:=by
 have Y:=gR c (show (0:Int)<161 by decide);have b2:=gR r (show (0:Int)<9 by decide);have it: ∀j:Nat,j<=6-> ∀x:M8,MI8 a ((j:Int),x.2)->x.2=aIx a j:=λj hj x h=>by
  have:=h.2.2;rwa[show ((j:Int),x.2).1.toNat=j from zd2 j] at this
 refine ac (by rw[J];rfl) (ac (ej (by omega) (by omega)) (ac (by rw[V4.2 (show B64 (co c 161 - 80) from⟨by omega,by omega⟩)];rfl) (ac (by rw[N];rfl) (ac (by rw[V4.2 (show B64 (co r 9) from⟨by omega,by omega⟩)];rfl)
  ⟨(0, []),⟨zat _,by decide,rfl⟩,⟨⟨rfl,rfl,rfl,rfl,trivial⟩,trivial,⟨rfl,trivial⟩,rfl,trivial⟩, ?_,λx h=>aIY (j:=0) (by decide) H (it 0 (by decide) x h),λx h=>aIY (j:=1) (by decide) H (it 1 (by decide) x h),λx h=>aIY (j:=2) (by decide) H (it 2 (by decide) x h),λx h=>aIY (j:=3) (by decide) H (it 3 (by decide) x h),λx h=>aIY (j:=4) (by decide) H (it 4 (by decide) x h),λx h=>aIY (j:=5) (by decide) H (it 5 (by decide) x h),λx h=> ?_,trivial⟩))))
 ·rintro⟨i,l⟩ ⟨h0,h1,_⟩;dsimp only at h0 h1 ⊢;have:i=0\/i=1\/i=2\/i=3\/i=4\/i=5\/i=6:=by omega
  rcases this with rfl|rfl|rfl|rfl|rfl|rfl|rfl<;>simp
 ·rw[it 6 (by decide) x h];exact k
def aKq:List SV->Option A6
 | [.val (.int .i64 H), .val (.int .i64 J), .val (.int .i64 N), .val (.int .i64 Y), .val (.int .i64 a4), .val (.int .i64 a5)]=>some (H,J,N,Y,a4,a5)
 |_=>none
theorem aJt {l:zdJ} (h:aKq l=some a):l=a6L a:=by
 unfold aKq at h;split at h
 ·simp only[za1] at h;subst h;rfl
 ·cases h
def aMc:MCtr:=λ_ nx args=>match args with
 | [.val (.int .i64 c), .val (.int .i64 r), .agg l]=>(match aKq l with
   |some a=>some {X:=Unit,pre:=cl c&&(cl r&&uA6 a),spec:=λ_=>True,out:=λ_=>fmS (aI4 c) (aJd r) (.slc nx 0 (aIx a 6).length),nw:=λ_=> [eTm.own (aIx a 6)],ex:=λ_=>⟨(),trivial⟩}
   |none=>none)
 |_=>none
variable {d:Ad3}
theorem aLv : ∀B:Base,GlobPB d B->VU prog B 47 aMc:=aEL aI6 (MPk.of MEk.nil) λbl nx args C H hp=>by
 unfold aMc at H;split at H
 ·rename_i c r l;split at H
  ·rename_i a Y;simp only[za1] at H;subst H;obtain rfl:=aJt Y;have hp:(cl c&&(cl r&&uA6 a))=true:=hp;simp only[za2] at hp;obtain⟨h1,h2,h3⟩:=hp;refine⟨[], [], [cI.enc c,cI.enc r, .agg (a6L a)],aLQ (MI8 a),6,trivial,bH (λC J=>by cases J), .inl (λC J=>by cases J),by rfl, ?_⟩;refine azw (K:=aL9 λi n B x y=>i=23/\n=(aIx a 6).length/\B=eTm.own (aIx a 6)/\x=rs2 (aI4 c)/\y=rs2 (aJd r)) ?_ λr' bl' q w h=> ?_
   ·have e:=aMb d (MI8 a) c r a (λi n B x y=>i=23/\n=(aIx a 6).length/\B=eTm.own (aIx a 6)/\x=rs2 (aI4 c)/\y=rs2 (aJd r));unfold aLR at e;rw[e];exact aKz h1 h2 h3 ⟨rfl,rfl,rfl,rfl,rfl⟩
   ·unfold aL9 at h;split at h
    ·rename_i x1 x2 i n rest;split at h
     ·rename_i B hB;obtain⟨rfl,rfl,rfl,hx,hy⟩:=h;have N:dt [] [some 23] nx nx=some (some 23):=cO;refine⟨(),trivial, [some 23],⟨_,rfl, ?_⟩,by decide,⟨⟨zaA _, ?_⟩,trivial⟩,trivial⟩
      ·show SV.rn (dt [] [some 23] nx) (fmS (aI4 c) (aJd r) (.slc nx 0 (aIx a 6).length))=_;obtain⟨rfl,rfl⟩:x1= .val (.string (aI4 c).1)/\x2= .val (.string (aI4 c).2):=by simpa [rs2] using hx
       subst hy;simp only[fmS,SV.rn,SV.rns,N,rs2]
      ·rw[hB];exact⟨by simp[El.own],λ_=> .inl rfl,gC rfl rfl (za0 _) λ_ _=>rfl⟩
     ·exact h.elim
    ·exact h.elim
  ·cases H
 ·cases H
def aKP (I:M8->Prop):zdV:=λf k=>bif Nat.beq f 46&&Nat.beq k 3 then some (λA=>{X:=M8,inv:=I,tm:=λx=> [(4, .val (.int .i64 x.1)),(3, .slc A.nx 0 x.2.length)],gr:= [{src:= .slot 3,sz:=3,n:=λx=>x.2.length,get:=λx=>eTm.get x.2}],cleanG:=λg hg x e=>(by simp at hg;subst hg;exact eTm.ids _),mu:=λx=>(7 - x.1).toNat,keep:= [1],sp:= [λx=>(0,x.2),λx=>(1,x.2),λx=>(2,x.2),λx=>(3,x.2),λx=>(4,x.2),λx=>(5,x.2),λx=>(6,x.2)]}) else none
def aMY (q:Nat) (i:Int) (m:Nat) (g:zdM) (z:M8):Prop:=(TV.v (cI.enc i)=TV.v (cI.enc z.1)/\TV.v (.slc q 0 m)=TV.v (.slc q 0 z.2.length)/\TV.v (.ptr 0 0 0)=TV.v (.ptr 0 0 0)/\True)/\(True/\(True/\(ah (Nat.beq 3 3&&decide (z.2.length<=m)) (∀e,e<z.2.length->g e=eTm.get z.2 e)/\True)))
def aKc (I:M8->Prop) (q j:Nat) (a:Int) (x:M8):Prop:=ah (cl a&&decide ((0:Int)<17)) (ah (inR .i64 (q8 a)) (ah (cl (q8 a)&&cl 8) (aMa x.2.length (∃H:M8,I H/\((7 - H.1).toNat<(7 - (j:Int)).toNat/\aMY q ((j:Int)+1) (x.2.length+1) (aKn x.2 (1+(j:Int),(rMk (q8 a) 8).1)) H)))))
def aMG (I:M8->Prop) (a:A6) (J q:Nat) (Q:Nat->Nat->Go.Sy.Blk->Prop):Prop:= ∃H:M8,I H/\(((TV.v (cI.enc 0)=TV.v (cI.enc H.1)/\TV.v (.val (.slice none 0 0))=TV.v (.val (.slice none H.2.length 0))/\TV.v (.ptr 0 0 0)=TV.v (.ptr 0 0 0)/\True)/\(True/\(True/\(H.2.length=0/\True))))/\
 ((∀x:M8,I x->(0,x.2)=x\/(1,x.2)=x\/(2,x.2)=x\/(3,x.2)=x\/(4,x.2)=x\/(5,x.2)=x\/(6,x.2)=x\/False)/\
 ((∀x:M8,I (0,x.2)->aKc I q 0 a.1 x)/\((∀x:M8,I (1,x.2)->aKc I q 1 a.2.1 x)/\((∀x:M8,I (2,x.2)->aKc I q 2 a.2.2.1 x)/\((∀x:M8,I (3,x.2)->aKc I q 3 a.2.2.2.1 x)/\((∀x:M8,I (4,x.2)->aKc I q 4 a.2.2.2.2.1 x)/\((∀x:M8,I (5,x.2)->aKc I q 5 a.2.2.2.2.2 x)/\
 ((∀x:M8,I (6,x.2)->Q J x.2.length {n:=x.2.length,sz:=3,get:=eTm.get x.2,kd:= .own,nn:=false})/\True)))))))))
def aMd (Q:Nat->Nat->Go.Sy.Blk->Prop):Aft:=λr bl _ _=>match r with
 | .ok (.slc i 0 n)=>(match bl i with
   |some B=>Q i n B
   |none=>False)
 |_=>False
def aLU (d:Ad3) (I:M8->Prop) (a:A6) (Q:Nat->Nat->Go.Sy.Blk->Prop):Prop:=ayw d gA8 [] (aKP I) 6 46 [.agg (a6L a)] [] (aMd Q)
theorem aMe (d:Ad3) (I:M8->Prop) (a:A6) (Q:Nat->Nat->Go.Sy.Blk->Prop):aLU d I a Q=aMG I a 4 25 Q:=by kernel_rfl
def VI8 (a:A6) (x:M8):Prop:=0<=x.1/\x.1<=6/\x.2=aID a x.1.toNat
variable {q:Nat}
theorem aIZ (hj:j<6) (Y:uA6 a=true) (N:x.2=aID a j):aKc (VI8 a) q j (a6N a j) x:=by
 have hb:=aLS (a6N a j);have hl:x.2.length=j:=by rw[N,aJs]
 have H:aID a (j+1)=x.2++ [(1+(j:Int),(rMk (q8 (a6N a j)) 8).1)]:=by rw[N];rfl
 refine ac (by rw[aLT Y];rfl) (ac (ej (by omega) (by omega)) (ac (by rw[V4.2 (show B64 (q8 (a6N a j)) from⟨by omega,by omega⟩)];rfl) (aKp (by omega) ⟨((j:Int)+1,aID a (j+1)),⟨by dsimp only;omega,by dsimp only;omega,by dsimp only;rw[show ((j:Int)+1).toNat=j+1 by omega]⟩,by dsimp only;omega,⟨⟨rfl, ?_,rfl,trivial⟩,trivial,trivial, ?_,trivial⟩⟩)))
 ·dsimp only;rw[H,za3];rfl
 ·dsimp only;rw[H];exact ac (by rw[za3,za6,zdp (za0 _)];rfl) λe J=>aJO (by rw[za3,za6] at J;exact J)
theorem aKA {Q:Nat->Nat->Go.Sy.Blk->Prop} (H:uA6 a=true) (k:Q q0 (aID a 6).length (eTm.own (aID a 6))):aMG (VI8 a) a q0 q Q:=by
 have it: ∀j:Nat,j<=6-> ∀x:M8,VI8 a ((j:Int),x.2)->x.2=aID a j:=λj J x h=>by
  have:=h.2.2;rwa[show ((j:Int),x.2).1.toNat=j from zd2 j] at this
 refine⟨(0, []),⟨zat _,by decide,rfl⟩,⟨⟨rfl,rfl,rfl,trivial⟩,trivial,trivial,rfl,trivial⟩, ?_,λx h=>aIZ (j:=0) (by decide) H (it 0 (by decide) x h),λx h=>aIZ (j:=1) (by decide) H (it 1 (by decide) x h),λx h=>aIZ (j:=2) (by decide) H (it 2 (by decide) x h),λx h=>aIZ (j:=3) (by decide) H (it 3 (by decide) x h),λx h=>aIZ (j:=4) (by decide) H (it 4 (by decide) x h),λx h=>aIZ (j:=5) (by decide) H (it 5 (by decide) x h),λx h=> ?_,trivial⟩
 ·rintro⟨i,l⟩ ⟨h0,h1,_⟩;dsimp only at h0 h1 ⊢;have:i=0\/i=1\/i=2\/i=3\/i=4\/i=5\/i=6:=by omega
  rcases this with rfl|rfl|rfl|rfl|rfl|rfl|rfl<;>simp
 ·rw[it 6 (by decide) x h];exact k
def aMf:MCtr:=λ_ nx args=>match args with
 | [.agg l]=>(match aKq l with
   |some a=>some {X:=Unit,pre:=uA6 a,spec:=λ_=>True,out:=λ_=> .slc nx 0 (aID a 6).length,nw:=λ_=> [eTm.own (aID a 6)],ex:=λ_=>⟨(),trivial⟩}
   |none=>none)
 |_=>none
theorem aLw : ∀B:Base,GlobPB d B->VU prog B 46 aMf:=aEL aI6 (MPk.of MEk.nil) λbl nx args C H hp=>by
 unfold aMf at H;split at H
 ·rename_i l;split at H
  ·rename_i a Y;simp only[za1] at H;subst H;obtain rfl:=aJt Y;have hp:uA6 a=true:=hp;refine⟨[], [], [.agg (a6L a)],aKP (VI8 a),6,trivial,bH (λC J=>by cases J), .inl (λC J=>by cases J),by rfl, ?_⟩;refine azw (K:=aMd λi n B=>i=4/\n=(aID a 6).length/\B=eTm.own (aID a 6)) ?_ λr' bl' q w h=> ?_
   ·have e:=aMe d (VI8 a) a (λi n B=>i=4/\n=(aID a 6).length/\B=eTm.own (aID a 6));unfold aLU at e;rw[e];exact aKA hp ⟨rfl,rfl,rfl⟩
   ·unfold aMd at h;split at h
    ·rename_i i n;split at h
     ·rename_i B hB;obtain⟨rfl,rfl,rfl⟩:=h;have N:dt [] [some 4] nx nx=some (some 4):=cO;refine⟨(),trivial, [some 4],⟨_,rfl, ?_⟩,by decide,⟨⟨zaA _, ?_⟩,trivial⟩,trivial⟩
      ·show SV.rn (dt [] [some 4] nx) (.slc nx 0 (aID a 6).length)=_;simp only[SV.rn,N]
      ·rw[hB];exact⟨by simp[El.own],λ_=> .inl rfl,gC rfl rfl (za0 _) λ_ _=>rfl⟩
     ·exact h.elim
    ·exact h.elim
  ·cases H
 ·cases H
def ixF (n:Nat) (i:Int) (K:Prop):Prop:=ah (decide (0<=i)&&decide (i<(n:Int))&&decide (0+i.toNat<n)) (ah (decide (0+i.toNat<n)) K)
def ixG (g:Bool) (n:Nat) (i:Int) (K:Prop):Prop:=ah (dC g (decide (0<=i)&&decide (i<(n:Int))&&decide (0+i.toNat<n))) (ah (dC g (decide (0+i.toNat<n))) K)
def eqZ (a:RS):Bool:=seq a.1 zero8.1&&(seq a.2 zero8.2&&true)
def v8M (i z:Int):Prop:=(TV.v (cI.enc i)=TV.v (cI.enc z)/\TV.v (.ptr 1 0 0)=TV.v (.ptr 1 0 0)/\True)/\(True/\(True/\True))
def b1v (c r:RS):Bool:=bif !rV c then true else !rV r
def e4v (t:Int×RS):Bool:=bif (bif (bif !rV t.2 then true else eqZ t.2) then true else decide (t.1<1)) then true else decide (t.1>1000000)
def v8B (I:Int->Prop) (N:Int) (l:List (Int×RS)) (x:Int) (t:Int×RS) (Q:zdR):Prop:=ah (uzR t.2) (ah (dC (!e4v t&&decide (x>0)) (inR .i64 (x - 1))) (ixG (!e4v t&&decide (x>0)) l.length (x - 1) (ag (bif e4v t then true else bif decide (x>0) then decide ((eTm.nth l (0+(x - 1).toNat)).1>=t.1) else false) (Q (cB.enc false)) (ah (inR .i64 (x+1)) (∃x':Int,I x'/\((N - x').toNat<(N - x).toNat/\v8M (x+1) x'))))))
def v8T (I:Int->Prop) (N:Int) (c r:RS) (l:List (Int×RS)) (Q:zdR):Prop:=ah (uzR c) (ah (uzR r) (ah (dC (!b1v c r) (uzR r&&uzR zero8)) (ag (bif (bif b1v c r then true else decide (b9 r zero8<0)) then true else decide ((l.length:Int)>64)) (Q (cB.enc false))
 (∃H:Int,I H/\(v8M 0 H/\ ∀x:Int,I x->ag (decide (x<(l.length:Int))) (eO l.length x (v8B I N l x (eTm.nth l (0+x.toNat)) Q)) (Q (cB.enc true)))))))
where v8B (I:Int->Prop) (N:Int) (l:List (Int×RS)) (x:Int) (t:Int×RS) (Q:zdR):Prop:=ah (uzR t.2) (ah (dC (!e4v t&&decide (x>0)) (inR .i64 (x - 1))) (ixG (!e4v t&&decide (x>0)) l.length (x - 1)
 (ag (bif e4v t then true else bif decide (x>0) then decide ((eTm.nth l (0+(x - 1).toNat)).1≥t.1) else false) (Q (cB.enc false)) (ah (inR .i64 (x+1)) (∃x':Int,I x'/\((N - x').toNat<(N - x).toNat/\v8M (x+1) x'))))))
def w8M (n:Nat) (i z:Int):Prop:=(TV.v (cI.enc i)=TV.v (cI.enc z)/\TV.v (.slc 0 0 n)=TV.v (.slc 0 0 n)/\True)/\(True/\(True/\True))
def d2w (t:Int×RS):Bool:=bif decide (t.1<1) then true else decide (t.1>1000000)
def c1w (t:Int×RS):Bool:=bif !rV t.2 then true else decide (b9 t.2 (rMk (-1) 1).1<0)
def w8B (I:Int->Prop) (N:Int) (l:List (Int×RS)) (x:Int) (t:Int×RS) (Q:zdR):Prop:=ah (uzR t.2) (ixG (!!rV t.2) l.length x (ah (dC (!!rV t.2) (uzR t.2&&uzR (rMk (-1) 1).1)) (ixG (!c1w t) l.length x (ah (dC (!c1w t) (uzR t.2&&uzR (rMk 1 1).1)) (ag (bif c1w t then true else decide (b9 t.2 (rMk 1 1).1>0)) (Q (cB.enc false)) (ixF l.length x (ixG (!decide (t.1<1)) l.length x (ah (dC (!d2w t&&decide (x>0)) (inR .i64 (x - 1))) (ixG (!d2w t&&decide (x>0)) l.length (x - 1) (ixG (!d2w t&&decide (x>0)) l.length x (ag (bif d2w t then true else bif decide (x>0) then decide ((eTm.nth l (0+(x - 1).toNat)).1>=t.1) else false) (Q (cB.enc false)) (ah (inR .i64 (x+1)) (∃x':Int,I x'/\((N - x').toNat<(N - x).toNat/\w8M l.length (x+1) x'))))))))))))))
def w8T (I:Int->Prop) (N:Int) (l:List (Int×RS)) (Q:zdR):Prop:=ag (decide ((l.length:Int)>64)) (Q (cB.enc false)) (∃H:Int,I H/\(w8M l.length 0 H/\ ∀x:Int,I x->ag (decide (x<(l.length:Int))) (ixF l.length x (w8B I N l x (eTm.nth l (0+x.toNat)) Q)) (Q (cB.enc true))))
where w8B (I:Int->Prop) (N:Int) (l:List (Int×RS)) (x:Int) (t:Int×RS) (Q:zdR):Prop:=ah (uzR t.2) (ixG (!!rV t.2) l.length x (ah (dC (!!rV t.2) (uzR t.2&&uzR (rMk (-1) 1).1)) (ixG (!c1w t) l.length x (ah (dC (!c1w t) (uzR t.2&&uzR (rMk 1 1).1))
 (ag (bif c1w t then true else decide (b9 t.2 (rMk 1 1).1>0)) (Q (cB.enc false)) (ixF l.length x (ixG (!decide (t.1<1)) l.length x (ah (dC (!d2w t&&decide (x>0)) (inR .i64 (x - 1))) (ixG (!d2w t&&decide (x>0)) l.length (x - 1) (ixG (!d2w t&&decide (x>0)) l.length x
   (ag (bif d2w t then true else bif decide (x>0) then decide ((eTm.nth l (0+(x - 1).toNat)).1≥t.1) else false) (Q (cB.enc false)) (ah (inR .i64 (x+1)) (∃x':Int,I x'/\((N - x').toNat<(N - x).toNat/\w8M l.length (x+1) x'))))))))))))))
theorem aMH (d:Ad3) (I:Int->Prop) (N:Int) (c r:RS) (l:List (Int×RS)) (Q:zdR):ayw d gA8 [] (aLO I N) 5 130 [fmS c r (.slc 0 0 l.length)] [eTm.old l] (Go.Sy.okK λr _ _ _=>Q r)=v8T I N c r l Q:=by kernel_rfl
theorem aMI (d:Ad3) (I:Int->Prop) (N:Int) (l:List (Int×RS)) (Q:zdR):ayw d gA8 [] (aLP I N) 5 131 [.slc 0 0 l.length] [eTm.old l] (Go.Sy.okK λr _ _ _=>Q r)=w8T I N l Q:=by kernel_rfl
theorem aJu:uzR zero8=true:=alg _ _
def aKQ:MCtr:=λbl _ args=>match args with
 | [.ptr c 0 0,x]=>(match cR.dec x,aKk bl c with
   |some a,some (w,f)=>some (aKN (w&&uzR a) c (aJS a) (aKI a) f)
   |_,_=>none)
 |_=>none
theorem aKR : ∀B:Base,GlobPB d B->VU prog B 136 aKQ:=aEL aI6 aKm λbl nx args C H hp=>by
 unfold aKQ at H;split at H
 ·rename_i c x;split at H
  ·rename_i a w f ha hc;simp only[za1] at H;subst H;have hp:(w&&uzR a)=true:=hp;rw[za2] at hp;obtain⟨rfl,h2⟩:=hp;obtain rfl:=cR.ok _ _ ha;obtain⟨B,J,N,Y,b4,b5⟩:=aJp hc;refine⟨[some c], [aJj f], [.ptr 0 0 0,cR.enc a],λ_ _=>none,6,aw (by simp only[j5,J];exact aKl N Y b4 b5) trivial,aJo,cd (by simp[aJj,BK.map]),rfl, ?_⟩;refine azw (K:=KC8 λs l=>s=cR.enc (aJS a)/\l= [.val (.bool (aIN (aKI a) f))]) ?_ λr bl' q w h=>aKO h;rw[aKy];refine ac (by rw[h2,aJu];rfl) (bI (λh=>ac (by rw[h2,aJu];rfl) λ_ _=>⟨?_, ?_⟩) λh=>⟨?_, ?_⟩)
   ·unfold aJS;rw[h];rfl
   ·unfold aKI;rw[h];rfl
   ·unfold aJS;rw[h];rfl
   ·unfold aKI;rw[h];rfl
  ·cases H
 ·cases H
variable {i:Int}
theorem aJe {g:Bool} (h:g=true->0<=i/\i<(n:Int)) (k:K):ixG g n i K:=ac (Q5 λe=>by
 obtain⟨h0,h1⟩:=h e
 rw[zdp h0,zdp h1,zdp (by omega)];rfl) (ac (Q5 λe=>by
 obtain⟨h0,h1⟩:=h e
 exact zdp (by omega)) k)
theorem aKd (h0:0<=i) (h1:i<(n:Int)) (k:K):ixF n i K:=ac (by rw[zdp h0,zdp h1,zdp (by omega)];rfl) (ac (zdp (by omega)) k)
def I8 (n:Nat) (x:Int):Prop:=0<=x/\x<=(n:Int)
theorem aJP {a b:Bool} (h:(a&&b)=true):b=true:=by rw[za2] at h;exact h.2
variable {Q:zdR}
theorem aKS {c r:RS} (Y:uzR c=true) (N:uzR r=true) (hl: ∀t∈l,uzT t=true) (hn:l.length<=1000000) (k: ∀b,Q (cB.enc b)):v8T (I8 l.length) l.length c r l Q:=by
 refine ac Y (ac N (ac (Q5 λ_=>by rw[N,aJu];rfl) (bI (λ_=>k _) λ_=>⟨0,⟨zat _,Int.natCast_nonneg _⟩,⟨⟨rfl,rfl,trivial⟩,trivial,trivial,trivial⟩, ?_⟩)));rintro x ⟨h0,h1⟩;refine bI (λH=> ?_) λ_=>k _;have H:=zdu H;rw[za7];have J:=hl _ (bw (d:=eTm.d) (show x.toNat<l.length by omega));have J:uzT (eTm.nth l x.toNat)=true:=J;refine aY h0 H ?_;generalize eTm.nth l x.toNat=t at*
 refine ac (aJP J) (ac (Q5 λg=>ej (by omega) (by omega)) (aJe (λg=> ?_) (bI (λ_=>k _) λ_=>ac (ej (by omega) (by omega)) ⟨x+1,⟨by omega,by omega⟩,by omega,⟨⟨rfl,rfl,trivial⟩,trivial,trivial,trivial⟩⟩)));have:=zdu (aJP g);exact⟨by omega,by omega⟩
theorem aKT (hl: ∀t∈l,uzT t=true) (hn:l.length<=1000000) (k: ∀b,Q (cB.enc b)):w8T (I8 l.length) l.length l Q:=by
 refine bI (λ_=>k _) λ_=>⟨0,⟨zat _,Int.natCast_nonneg _⟩,⟨⟨rfl,rfl,trivial⟩,trivial,trivial,trivial⟩, ?_⟩;rintro x ⟨h0,h1⟩;refine bI (λH=> ?_) λ_=>k _;have H:=zdu H;rw[za7];have N:=hl _ (bw (d:=eTm.d) (show x.toNat<l.length by omega));have N:uzT (eTm.nth l x.toNat)=true:=N;have J: ∀{g:Bool},g=true->0<=x/\x<(l.length:Int):=λ_=>⟨h0,H⟩;refine aKd h0 H ?_;generalize eTm.nth l x.toNat=t at*
 have Y:=aJP N;have pos: ∀{b:Bool},(b&&decide (x>0))=true->0<=x - 1/\x - 1<(l.length:Int):=λg=>by
  have:=zdu (aJP g);exact⟨by omega,by omega⟩
 exact ac Y (aJe J (ac (Q5 λ_=>by rw[Y,alg];rfl) (aJe J (ac (Q5 λ_=>by rw[Y,alg];rfl) (bI (λ_=>k _) λ_=>aKd h0 H (aJe J (ac (Q5 λg=>ej (by omega) (by omega)) (aJe pos (aJe J (bI (λ_=>k _) λ_=>ac (ej (by omega) (by omega)) ⟨x+1,⟨by omega,by omega⟩,by omega,⟨⟨rfl,rfl,trivial⟩,trivial,trivial,trivial⟩⟩))))))))))
theorem aKU {src:Int} (J:l.length<=1000000) (k: ∀i:Int, -1<=i/\i<(l.length:Int)->Q (cI.enc i)):aMC (I8 l.length) l.length l src Q:=by
 refine⟨0,⟨zat _,Int.natCast_nonneg _⟩,⟨⟨rfl,rfl,rfl,trivial⟩,trivial,trivial,trivial⟩, ?_⟩;rintro x ⟨h0,h1⟩;refine bI (λH=> ?_) λ_=>k _ ⟨by omega,by omega⟩;have H:=zdu H;exact aY h0 H (bI (λ_=>k _ ⟨by omega,H⟩) λ_=>ac (ej (by omega) (by omega)) ⟨x+1,⟨by omega,by omega⟩,by omega,⟨⟨rfl,rfl,rfl,trivial⟩,trivial,trivial,trivial⟩⟩)
def kV8:MCtr:=λbl _ args=>match args with
 | [.agg [.val (.string H), .val (.string c2),s, .val (.string J), .val (.string N)]]=>(match vW bl 3 s with
   |some (b,_,n,g)=>some {X:=Bool,pre:=b&&(Nat.ble n 1000000&&eTm.good uzT n g)&&(uzR (H,c2)&&uzR (J,N)),spec:=λ_=>True,out:=λx=>cB.enc x,ex:=λ_=>⟨true,trivial⟩}
   |none=>none)
 |_=>none
def kW8:MCtr:=λbl _ args=>match args with
 | [s]=>(match vW bl 3 s with
   |some (b,_,n,g)=>some {X:=Bool,pre:=b&&(Nat.ble n 1000000&&eTm.good uzT n g),spec:=λ_=>True,out:=λx=>cB.enc x,ex:=λ_=>⟨true,trivial⟩}
   |none=>none)
 |_=>none
def kF8:MCtr:=λbl _ args=>match args with
 | [s, .val (.int .i64 _)]=>(match vW bl 3 s with
   |some (b,_,n,g)=>some {X:=Int,pre:=b&&(Nat.ble n 1000000&&eTm.good uzT n g),spec:=λi=> -1<=i/\i<(n:Int),out:=λi=>cI.enc i,ex:=λ_=>⟨-1,by omega,by omega⟩}
   |none=>none)
 |_=>none
theorem aMg : ∀B:Base,GlobPB d B->VU prog B 130 kV8:=aEL aI6 (MPk.of MEk.nil) λbl nx args C J hp=>by
 unfold kV8 at J;split at J
 ·rename_i N c2 s r1 r2;split at J
  ·rename_i b o n g hs;simp only[za1] at J;subst J;simp only[za2] at hp;obtain⟨⟨rfl,Y,hg⟩,h1,h2⟩:=hp;obtain⟨t1,t2⟩:=cq (E:=eTm) (f:=rnF [o] [] nx) hs hg;have H: ∀C∈ [eTm.old (eTm.list n g)],cN C.kd=false:=by simp[cN,El.old]
   refine⟨[o], [eTm.old (eTm.list n g)], [fmS (N,c2) (r1,r2) (.slc 0 0 (eTm.list n g).length)],aLO (I8 (eTm.list n g).length) (eTm.list n g).length,5,aw t1 trivial,bH H,cd (by simp[El.old,BK.map]), ?_, ?_⟩
   ·have h0:=t2 0 rfl;simp only[SV.rn] at h0;simp only[fmS,SV.rns,SV.rn,h0]
   ·refine azw (K:=Go.Sy.okK λr _ _ _=> ∃b:Bool,r=cB.enc b) ?_ λr bl' q w h=> ?_
    ·rw[aMH];exact aKS h1 h2 (El.good_list hg) (by rw[El.list_length];exact zak Y) λb=>⟨b,rfl⟩
    ·cases r with
     |pan v=>exact h.elim
     |ok s=>
      obtain⟨b,rfl⟩: ∃b:Bool,s=cB.enc b:=h;exact⟨b,trivial, [],⟨_,rfl,rfl⟩,zcA,trivial,we H rfl _⟩
  ·cases J
 ·cases J
theorem aMh : ∀B:Base,GlobPB d B->VU prog B 131 kW8:=aEL aI6 (MPk.of MEk.nil) λbl nx args C J hp=>by
 unfold kW8 at J;split at J
 ·rename_i s;split at J
  ·rename_i b o n g Y;simp only[za1] at J;subst J;simp only[za2] at hp;obtain⟨rfl,N,hg⟩:=hp;obtain⟨t1,t2⟩:=cq (E:=eTm) (f:=rnF [o] [] nx) Y hg;have H: ∀C∈ [eTm.old (eTm.list n g)],cN C.kd=false:=by simp[cN,El.old]
   refine⟨[o], [eTm.old (eTm.list n g)], [.slc 0 0 (eTm.list n g).length],aLP (I8 (eTm.list n g).length) (eTm.list n g).length,5,aw t1 trivial,bH H,cd (by simp[El.old,BK.map]),aIy (t2 0 rfl) rfl, ?_⟩;refine azw (K:=Go.Sy.okK λr _ _ _=> ∃b:Bool,r=cB.enc b) ?_ λr bl' q w h=> ?_
   ·rw[aMI];exact aKT (El.good_list hg) (by rw[El.list_length];exact zak N) λb=>⟨b,rfl⟩
   ·cases r with
    |pan v=>exact h.elim
    |ok s=>
     obtain⟨b,rfl⟩: ∃b:Bool,s=cB.enc b:=h;exact⟨b,trivial, [],⟨_,rfl,rfl⟩,zcA,trivial,we H rfl _⟩
  ·cases J
 ·cases J
theorem aMi : ∀B:Base,GlobPB d B->VU prog B 133 kF8:=aEL aI6 (MPk.of MEk.nil) λbl nx args C J hp=>by
 unfold kF8 at J;split at J
 ·rename_i s src;split at J
  ·rename_i b o n g hs;simp only[za1] at J;subst J;simp only[za2] at hp;obtain⟨rfl,Y,hg⟩:=hp;obtain⟨t1,t2⟩:=cq (E:=eTm) (f:=rnF [o] [] nx) hs hg;have H: ∀C∈ [eTm.old (eTm.list n g)],cN C.kd=false:=by simp[cN,El.old]
   have N:(eTm.list n g).length=n:=El.list_length;refine⟨[o], [eTm.old (eTm.list n g)], [.slc 0 0 (eTm.list n g).length,cI.enc src],aLN (I8 (eTm.list n g).length) (eTm.list n g).length,5,aw t1 trivial,bH H,cd (by simp[El.old,BK.map]),aIy (t2 0 rfl) rfl, ?_⟩;refine azw (K:=Go.Sy.okK λr _ _ _=> ∃i:Int,(-1<=i/\i<(n:Int))/\r=cI.enc i) ?_ λr bl' q w h=> ?_
   ·rw[aMD];exact aKU (by rw[N];exact zak Y) λi hi=>⟨i,by rw[N] at hi;exact hi,rfl⟩
   ·cases r with
    |pan v=>exact h.elim
    |ok s=>
     obtain⟨i,hi,rfl⟩: ∃i:Int,(-1<=i/\i<(n:Int))/\s=cI.enc i:=h;exact⟨i,hi, [],⟨_,rfl,rfl⟩,zcA,trivial,we H rfl _⟩
  ·cases J
 ·cases J
abbrev cIE8:Cod (Iv×Int):=cP cIv cI
def aLV (a b:RS) (f:Bool) (Q:SV->List SV->Prop):Prop:=ah (true&&(uzR a&&uzR b)) (Unit->True->ah (true&&(uzR a&&uzR b)) (Unit->True->ag (aIN (fZ a b).2 (aIN (iF a b).2 f))
 (Q (cIE8.enc (noI,80)) [.val (.bool (aIN (fZ a b).2 (aIN (iF a b).2 f)))]) (Q (cIE8.enc (((iF a b).1,(fZ a b).1),0)) [.val (.bool (aIN (fZ a b).2 (aIN (iF a b).2 f)))])))
abbrev AX8:=Int×RS×RS×Bool
def aLW (I:AX8->Prop) (N:Int):zdV:=λf k=>bif Nat.beq f 48&&Nat.beq k 9 then some (λA=>{X:=AX8,inv:=I,tm:=λx=> [(11, .val (.int .i64 x.1))],bk:= [(rowT.idC A 9,λx _=>gA x.2.1),(rowT.idC A 10,λx _=>gA x.2.2.1),(rowT.idC A 8,λx _=> [.val (.bool x.2.2.2)])],mu:=λx=>(N - x.1).toNat,keep:= [1,2,4,8,9,10],clean:=by intro p hp x e;simp at hp;rcases hp with rfl|rfl|rfl<;>rfl}) else none
def aMJ:zdW:=(130,kV8)::(131,kW8)::(133,kF8)::(136,aKQ)::aL8
structure AIds where
 r:Nat
 c:Nat
 m:Nat
 b:Nat
def aMK (D:AIds) (J H:Nat) (i:Int) (m b:RS) (f:Bool) (z:AX8):Prop:=(TV.v (cI.enc i)=TV.v (cI.enc z.1)/\TV.v (.slc 1 0 H)=TV.v (.slc 1 0 H)/\TV.v (.ptr 2 0 0)=TV.v (.ptr 2 0 0)/\TV.v (.ptr D.r 0 0)=TV.v (.ptr D.r 0 0)/\TV.v (.ptr D.c 0 0)=TV.v (.ptr D.c 0 0)/\TV.v (.ptr D.m 0 0)=TV.v (.ptr D.m 0 0)/\TV.v (.ptr D.b 0 0)=TV.v (.ptr D.b 0 0)/\True)/\
 (((gA m=gA z.2.1/\True)/\((gA b=gA z.2.2.1/\True)/\(([SV.val (.bool f)]= [SV.val (.bool z.2.2.2)]/\True)/\True)))/\(True/\True))
def aMj (D:AIds) (I:AX8->Prop) (N:Int) (H J:Nat) (i:Int) (m b:RS) (f:Bool):Prop:=ah (inR .i64 (i+1)) (∃z:AX8,I z/\((N - z.1).toNat<(N - i).toNat/\aMK D H J (i+1) m b f z))
def aI7 (n:Nat) (g:zdM):Bool:=(Nat.ble n n&&Nat.beq 3 3&&true)&&(Nat.ble n 1000000&&eTm.good uzT n g)
def aMZ (D:AIds) (I:AX8->Prop) (N:Int) (l w:List (Int×RS)) (z:AX8) (t:Int×RS):Prop:=ah (aI7 w.length (eTm.get w)) (∀k:Int,(-1<=k/\k<(w.length:Int))->ag (decide (k≥0))
 (ixF w.length k (ah (true&&(uzR t.2&&uzR (eTm.nth w (0+k.toNat)).2)) (Unit->True->ah (true&&(uzR z.2.1&&uzR (ale t.2 (eTm.nth w (0+k.toNat)).2).1)) (Unit->True->aMj D I N l.length w.length z.1 (fZ z.2.1 (ale t.2 (eTm.nth w (0+k.toNat)).2).1).1 z.2.2.1 (aIN (fZ z.2.1 (ale t.2 (eTm.nth w (0+k.toNat)).2).1).2 (aIN (ale t.2 (eTm.nth w (0+k.toNat)).2).2 z.2.2.2))))))
 (ah (true&&uzR t.2) (Unit->True->ah (true&&(uzR z.2.2.1&&uzR (aJS t.2))) (Unit->True->aMj D I N l.length w.length z.1 z.2.1 (fZ z.2.2.1 (aJS t.2)).1 (aIN (fZ z.2.2.1 (aJS t.2)).2 (aIN (aKI t.2) z.2.2.2))))))
def aML (D:AIds) (I:AX8->Prop) (N:Int) (c r:RS) (l w:List (Int×RS)) (Q:zdR):Prop:=ah (aI7 l.length (eTm.get l)&&(uzR c&&uzR r)) (∀J:Bool,True->ah (aI7 w.length (eTm.get w)) (∀Y:Bool,True->ag (bif !J then true else !Y) (Q (cIE8.enc (noI,80)))
 (∃H:AX8,I H/\(aMK D l.length w.length 0 c (rMk 0 1).1 false H/\ ∀z:AX8,I z->ag (decide (z.1<(l.length:Int))) (eO l.length z.1 (aMZ D I N l w z (eTm.nth l (0+z.1.toNat))))
   (ah (true&&(uzR z.2.2.1&&uzR r)) (Unit->True->aLV z.2.1 (fZ z.2.2.1 r).1 (aIN (fZ z.2.2.1 r).2 z.2.2.2) (λs _=>Q s)))))))
theorem aMM (d:Ad3) (I:AX8->Prop) (N:Int) (c r:RS) (l w:List (Int×RS)) (Q:zdR):ayw d gA8 aMJ (aLW I N) 6 48 [fmS c r (.slc 0 0 l.length), .slc 1 0 w.length] [eTm.old l,eTm.old w] (Go.Sy.okK λr _ _ _=>Q r)=aML ⟨3,16,20,23⟩ I N c r l w Q:=by kernel_rfl
def AI8 (n:Nat) (z:AX8):Prop:=0<=z.1/\z.1<=(n:Int)/\uzR z.2.1=true/\uzR z.2.2.1=true
theorem aIQ (H: ∀t∈l,uzT t=true) (J:l.length<=1000000):aI7 l.length (eTm.get l)=true:=by
 unfold aI7;rw[zae (za0 _),zae J,El.good_get H];rfl
theorem aMk {a b:RS} {f:Bool} {Q:SV->List SV->Prop} (H:uzR a=true) (J:uzR b=true) (k: ∀(x:Iv×Int) l,uzI x.1=true->Q (cIE8.enc x) l):aLV a b f Q:=by
 have hp:(true&&(uzR a&&uzR b))=true:=by rw[H,J];rfl
 exact ac hp λ_ _=>ac hp λ_ _=>bI (λ_=>k (noI,80) _ (by decide)) λ_=>k (((iF a b).1,(fZ a b).1),0) _ (by unfold uzI;rw[Lr,Lq];rfl)
theorem aKV {D:AIds} {c r:RS} {w:List (Int×RS)} (hc:uzR c=true) (hr:uzR r=true) (hl: ∀t∈l,uzT t=true) (hw: ∀t∈w,uzT t=true) (hn:l.length<=1000000) (H:w.length<=1000000) (k: ∀x:Iv×Int,uzI x.1=true->Q (cIE8.enc x)):aML D (AI8 l.length) l.length c r l w Q:=by
 refine ac (by rw[aIQ hl hn,hc,hr];rfl) λb1 _=>ac (aIQ hw H) λb2 _=>bI (λ_=>k (noI,80) (by decide)) λ_=>⟨(0,c,(rMk 0 1).1,false),⟨zat _,Int.natCast_nonneg _,hc,alg _ _⟩,⟨⟨rfl,rfl,rfl,rfl,rfl,rfl,rfl,trivial⟩,⟨⟨rfl,trivial⟩,⟨rfl,trivial⟩,⟨rfl,trivial⟩,trivial⟩,trivial,trivial⟩, ?_⟩;rintro⟨i,m,b,f⟩ ⟨h0,h1,N,J⟩;dsimp only at h0 h1 N J ⊢;refine bI (λY=> ?_) λ_=>ac (by rw[J,hr];rfl) λ_ _=>aMk N (Lq _ _) λx _ hx=>k x hx;have Y:=zdu Y;rw[za7];have ht:uzT (eTm.nth l i.toNat)=true:=hl _ (bw (d:=eTm.d) (show i.toNat<l.length by omega));refine aY h0 Y ?_;generalize eTm.nth l i.toNat=t at*
 have hu:=aJP ht;have nx: ∀{m b:RS} {f:Bool},uzR m=true->uzR b=true->aMj D (AI8 l.length) l.length l.length w.length i m b f:=λ{m b f} H a0=>ac (ej (by omega) (by omega)) ⟨(i+1,m,b,f),⟨by dsimp only;omega,by dsimp only;omega,H,a0⟩,by dsimp only;omega,⟨⟨rfl,rfl,rfl,rfl,rfl,rfl,rfl,trivial⟩,⟨⟨rfl,trivial⟩,⟨rfl,trivial⟩,⟨rfl,trivial⟩,trivial⟩,trivial,trivial⟩⟩;refine ac (aIQ hw H) λk' hk=>bI (λhp=> ?_) λ_=>ac (by rw[hu];rfl) λ_ _=>ac (by dsimp only;rw[J,aLo hu];rfl) λ_ _=>nx N (Lq _ _);have hp:=zdu hp;obtain⟨_,e0⟩:=hk;have hv:uzT (eTm.nth w (0+k'.toNat))=true:=hw _ (bw (d:=eTm.d) (show 0+k'.toNat<w.length by omega));exact aKd hp e0 (ac (by rw[hu,aJP hv];rfl) λ_ _=>ac (by dsimp only;rw[N,gI];rfl) λ_ _=>nx (Lq _ _) J)
def aMl:MCtr:=λbl _ args=>match args with
 | [.agg [.val (.string N), .val (.string c2),s, .val (.string Y), .val (.string r2)],t]=>(match vW bl 3 s,vW bl 3 t with
   |some (b,_,n,g),some (J,_,H,g')=>some {X:=Iv×Int,pre:=(b&&(Nat.ble n 1000000&&eTm.good uzT n g))&&((J&&(Nat.ble H 1000000&&eTm.good uzT H g'))&&(uzR (N,c2)&&uzR (Y,r2))),spec:=λx=>uzI x.1=true,out:=λx=>cIE8.enc x,ex:=λ_=>⟨(noI,0),by decide⟩}
   |_,_=>none)
 |_=>none
theorem aLx:MPk d aMJ:=(((aKm.cons aKR).cons aMi).cons aMh).cons aMg
theorem aLy : ∀B:Base,GlobPB d B->VU prog B 48 aMl:=aEL aI6 aLx λbl nx args C J hp=>by
 unfold aMl at J;split at J
 ·rename_i c1 c2 s r1 r2 t;split at J
  ·rename_i b o n g b' o' n' g' hs ht;simp only[za1] at J;subst J;simp only[za2] at hp;obtain⟨⟨rfl,hn,hg⟩,⟨rfl,Y,N⟩,h1,h2⟩:=hp;obtain⟨t1,t2⟩:=cq (E:=eTm) (f:=rnF [o,o'] [] nx) hs hg;obtain⟨u1,u2⟩:=cq (E:=eTm) (f:=rnF [o,o'] [] nx) ht N;have H: ∀C∈ [eTm.old (eTm.list n g),eTm.old (eTm.list n' g')],cN C.kd=false:=by simp[cN,El.old]
   refine⟨[o,o'], [eTm.old (eTm.list n g),eTm.old (eTm.list n' g')], [fmS (c1,c2) (r1,r2) (.slc 0 0 (eTm.list n g).length), .slc 1 0 (eTm.list n' g').length],aLW (AI8 (eTm.list n g).length) (eTm.list n g).length,6,aw t1 (aw u1 trivial),bH H,cd (by simp[El.old,BK.map]), ?_, ?_⟩
   ·have h0:=t2 0 rfl;have h3:=u2 1 rfl;simp only[SV.rn] at h0 h3;simp only[fmS,SV.rns,SV.rn,h0,h3]
   ·refine azw (K:=Go.Sy.okK λr _ _ _=> ∃x:Iv×Int,uzI x.1=true/\r=cIE8.enc x) ?_ λr bl' q w h=> ?_
    ·rw[aMM];exact aKV h1 h2 (El.good_list hg) (El.good_list N) (by rw[El.list_length];exact zak hn) (by rw[El.list_length];exact zak Y) λx hx=>⟨x,hx,rfl⟩
    ·cases r with
     |pan v=>exact h.elim
     |ok s=>
      obtain⟨x,hx,rfl⟩: ∃x:Iv×Int,uzI x.1=true/\s=cIE8.enc x:=h;exact⟨x,hx, [],⟨_,rfl,rfl⟩,zcA,trivial,we H rfl _⟩
  ·cases J
 ·cases J
def stN (st:List RS) (i:Nat):RS:=mb noR st i
def aIA (st:List RS) (p:RS×Int):Option (List RS):=bif p.2==0 then some (st.take (st.length - 2)++ [p.1]) else none
def aIR (st:List RS) (p:RS×Int):Option (List RS):=bif p.2==0 then some (st.take (st.length - 1)++ [p.1]) else none
def aIJ (st:List RS):RS:=stN st (st.length - 2)
def I2 (st:List RS):RS:=stN st (st.length - 1)
def exS (ins:List RS) (st:List RS) (x:InX):Option (List RS):=bif x.1==0 then some (st++ [x.2.2])
 else bif x.1==1 then(bif decide (x.2.1<(ins.length:Int)) then some (st++ [mb noR ins x.2.1.toNat]) else none)
 else bif x.1==2 then some (st++ [stN st (st.length - 1 - x.2.1.toNat)])
 else bif x.1==3 then some (st.take (st.length - 2)++ [I2 st,aIJ st])
 else bif x.1==4 then aIA st (fZ (aIJ st) (I2 st))
 else bif x.1==5 then aIA st (iF (aIJ st) (I2 st))
 else bif x.1==6 then aIA st (ale (aIJ st) (I2 st))
 else bif x.1==7 then aIR st (cA (rMk 1 1).1 (I2 st))
 else bif x.1==8 then none else some st
def exL (ins:List RS) (l:List InX):RS×Int:=match l.foldlM (exS ins) [] with
 |some st=>(I2 st,0)
 |none=>(noR,110)
def exF (s:zdG) (ins:List RS):RS×Int:=bif (ayE s).2==0&&(ins.all rV&&decide (ins.length<=6)) then(match aIH s with
 |some l=>exL ins l
 |none=>(noR,110)) else(noR,110)
def aIB (d:Int) (x:InX):Bool:=bif decide (d≥gi x.1.toNat) then(bif x.1 !=2 then true else decide (d>x.2.1)) else false
def aIE (x:InX):Int:=lj x.1.toNat - gi x.1.toNat
def eS (a b:Int):Int:=if b>a then b else a
theorem I3 (z:Int×Int) (x:InX):aCo z x=bif aIB z.2 x then some (eS z.1 (z.2+aIE x),z.2+aIE x) else none:=rfl
variable {d:Int} {x:InX}
theorem aIK (h:aIB d x=true):gi x.1.toNat<=d/\(x.1=2->x.2.1<d):=by
 unfold aIB at h;cases h1:decide (d≥gi x.1.toNat) with
 |false=>rw[h1] at h;cases h
 |true=>
  rw[h1,zdr] at h;refine⟨zdu h1,λe=> ?_⟩;rw[e] at h;simpa using h
theorem aI8 (h:gi x.1.toNat<=d) (h2:x.1=2->x.2.1<d):aIB d x=true:=by
 unfold aIB;rw[zdp (show d≥gi x.1.toNat from h),zdr];by_cases e:x.1=2
 ·rw[zdp (show d>x.2.1 from h2 e)];cases x.1 !=2<;>rfl
 ·rw[bne_iff_ne.2 e];rfl
theorem aLz: ∀i:Nat,gi i<=2/\0<=gi i:=λi=>by
 unfold gi;split<;>decide
theorem aJQ: ∀{l:List InX} {m d m' d':Int} (M k:Int),l.foldlM aCo (m,d)=some (m',d')->0<=k->d<=m->l.foldlM aCo (eS M (m+k),d+k)=some (eS M (m'+k),d'+k)
 | [],m,d,m',d',M,k,h,_,_=>by
   have h:some (m,d)=some (m',d'):=h;simp only[za1,zag] at h;obtain⟨rfl,rfl⟩:=h;rfl
 |x::l,m,d,m',d',M,k,h,N,hm=>by
  have h:(aCo (m,d) x).bind (λz=>l.foldlM aCo z)=some (m',d'):=h;show (aCo (eS M (m+k),d+k) x).bind (λz=>l.foldlM aCo z)=_;rw[I3] at h ⊢;dsimp only at h ⊢;cases H:aIB d x with
  |false=>rw[H] at h;cases h
  |true=>
   rw[H,zdr] at h;obtain⟨h1,h2⟩:=aIK H;rw[aI8 (d:=d+k) (by omega) (λe=>by have:=h2 e;omega),zdr];have h:l.foldlM aCo (eS m (d+aIE x),d+aIE x)=some (m',d'):=h;have Y:=aJQ (M:=M) (k:=k) h N (by unfold eS;split<;>omega);show l.foldlM aCo (eS (eS M (m+k)) (d+k+aIE x),d+k+aIE x)=_;rw[<-Y];have J:d+k+aIE x=d+aIE x+k:=by omega
   have e2:eS (eS M (m+k)) (d+k+aIE x)=eS M (eS m (d+aIE x)+k):=by
    unfold eS
    repeat' split
    all_goals omega
   rw[e2,J]
theorem aI9: ∀{l:List InX} {m d m' d':Int},l.foldlM aCo (m,d)=some (m',d')->d<=m->d'<=m'/\m<=m'
 | [],m,d,m',d',h,J=>by
   have h:some (m,d)=some (m',d'):=h;simp only[za1,zag] at h;obtain⟨rfl,rfl⟩:=h;exact⟨J,zat _⟩
 |x::l,m,d,m',d',h,J=>by
  have h:(aCo (m,d) x).bind (λz=>l.foldlM aCo z)=some (m',d'):=h;rw[I3] at h;dsimp only at h;cases H:aIB d x with
  |false=>rw[H] at h;cases h
  |true=>
   rw[H,zdr] at h;have h:l.foldlM aCo (eS m (d+aIE x),d+aIE x)=some (m',d'):=h;obtain⟨h1,h2⟩:=aI9 h (by unfold eS;split<;>omega);refine⟨h1, ?_⟩;unfold eS at h2;split at h2<;>omega
variable {b st:List RS} {n:Nat}
theorem aJv (h:n<=st.length):(b++st).take ((b++st).length - n)=b++st.take (st.length - n):=by
 rw[za3,show b.length+st.length - n=b.length+(st.length - n) by omega,List.take_length_add_append]
theorem aKW {i:Nat}:mb noR (b++st) (b.length+i)=mb noR st i:=by
 induction b with
 |nil=>simp
 |cons a b H=>
  rw[zaO,za4,show b.length+1+i=(b.length+i)+1 by omega];exact H
theorem aJU (h:n<st.length):stN (b++st) ((b++st).length - 1 - n)=stN st (st.length - 1 - n):=by
 unfold stN;rw[za3,show b.length+st.length - 1 - n=b.length+(st.length - 1 - n) by omega,aKW]
theorem aIS (h:1<=st.length):I2 (b++st)=I2 st:=by
 have:=aJU (b:=b) (st:=st) (n:=0) (by omega);exact this
theorem aJa (h:2<=st.length):aIJ (b++st)=aIJ st:=by
 have:=aJU (b:=b) (st:=st) (n:=1) (by omega);unfold aIJ;rw[show (b++st).length - 2=(b++st).length - 1 - 1 by omega,this,show st.length - 1 - 1=st.length - 2 by omega]
variable {p:RS×Int}
theorem aJV (h:2<=st.length):aIA (b++st) p=(aIA st p).map (b++ ·):=by
 unfold aIA;rw[aJv h];cases p.2==0 with
 |true=>simp
 |false=>rfl
theorem aLA (h:1<=st.length):aIR (b++st) p=(aIR st p).map (b++ ·):=by
 unfold aIR;rw[aJv h];cases p.2==0 with
 |true=>simp
 |false=>rfl
theorem aIz {t:Int} (e:x.1=(n:Int)) (H:gi n=t) (h:gi x.1.toNat<=d):t<=d:=by
 rw[e,zd2,H] at h;exact h
variable {ins:List RS}
theorem aLB (h:aIB st.length x=true) (hn:x.1=2->0<=x.2.1):exS ins (b++st) x=(exS ins st x).map (b++ ·):=by
 obtain⟨h1,h2⟩:=aIK h;unfold exS;by_cases e0:x.1=0
 ·rw[beq_iff_eq.2 e0];simp
 rw[beq_eq_false_iff_ne.2 e0,zdq,zdq];by_cases e1:x.1=1
 ·rw[beq_iff_eq.2 e1,zdr,zdr];cases decide (x.2.1<(ins.length:Int))<;>simp
 rw[beq_eq_false_iff_ne.2 e1,zdq,zdq];by_cases e2:x.1=2
 ·rw[beq_iff_eq.2 e2,zdr,zdr];have:=h2 e2;have:=hn e2;rw[aJU (by omega)];simp
 rw[beq_eq_false_iff_ne.2 e2,zdq,zdq];by_cases H:x.1=3
 ·rw[beq_iff_eq.2 H,zdr,zdr];have:=aIz (n:=3) (t:=2) H rfl h1;rw[aJv (by omega),aIS (by omega),aJa (by omega)];simp
 rw[beq_eq_false_iff_ne.2 H,zdq,zdq];by_cases J:x.1=4
 ·rw[beq_iff_eq.2 J,zdr,zdr];have:=aIz (n:=4) (t:=2) J rfl h1;rw[aJV (by omega),aIS (by omega),aJa (by omega)]
 rw[beq_eq_false_iff_ne.2 J,zdq,zdq];by_cases N:x.1=5
 ·rw[beq_iff_eq.2 N,zdr,zdr];have:=aIz (n:=5) (t:=2) N rfl h1;rw[aJV (by omega),aIS (by omega),aJa (by omega)]
 rw[beq_eq_false_iff_ne.2 N,zdq,zdq];by_cases Y:x.1=6
 ·rw[beq_iff_eq.2 Y,zdr,zdr];have:=aIz (n:=6) (t:=2) Y rfl h1;rw[aJV (by omega),aIS (by omega),aJa (by omega)]
 rw[beq_eq_false_iff_ne.2 Y,zdq,zdq];by_cases e7:x.1=7
 ·rw[beq_iff_eq.2 e7,zdr,zdr];have:=aIz (n:=7) (t:=1) e7 rfl h1;rw[aLA (by omega),aIS (by omega)]
 rw[beq_eq_false_iff_ne.2 e7,zdq,zdq];cases x.1==8<;>simp
variable {st':List RS}
theorem aJW (h:aIA st p=some st') (H:2<=st.length):st'.length+1=st.length:=by
 unfold aIA at h;cases hp:p.2==0 with
 |false=>rw[hp] at h;cases h
 |true=>
  rw[hp,zdr,za1] at h;rw[<-h,za3,zaE,za6];omega
theorem aLC (h:aIR st p=some st') (H:1<=st.length):st'.length=st.length:=by
 unfold aIR at h;cases hp:p.2==0 with
 |false=>rw[hp] at h;cases h
 |true=>
  rw[hp,zdr,za1] at h;rw[<-h,za3,zaE,za6];omega
theorem aJX (h:aIB st.length x=true) (hx:OkI x) (H:exS ins st x=some st'):(st'.length:Int)=st.length+aIE x:=by
 obtain⟨h1,h2⟩:=aIK h;have g0:=hx.lo;have a0:=hx.hi;unfold exS at H;unfold aIE;by_cases e0:x.1=0
 ·rw[beq_iff_eq.2 e0,zdr,za1] at H;rw[e0,<-H,za3];simp[lj,gi]
 rw[beq_eq_false_iff_ne.2 e0,zdq] at H;by_cases e1:x.1=1
 ·rw[beq_iff_eq.2 e1,zdr] at H;cases hd:decide (x.2.1<(ins.length:Int)) with
  |false=>rw[hd] at H;cases H
  |true=>
   rw[hd,zdr,za1] at H;rw[e1,<-H,za3];simp[lj,gi]
 rw[beq_eq_false_iff_ne.2 e1,zdq] at H;by_cases e2:x.1=2
 ·rw[beq_iff_eq.2 e2,zdr,za1] at H;rw[e2,<-H,za3];simp[lj,gi]
 rw[beq_eq_false_iff_ne.2 e2,zdq] at H;by_cases J:x.1=3
 ·rw[beq_iff_eq.2 J,zdr,za1] at H;have:=aIz (n:=3) (t:=2) J rfl h1;rw[J,<-H,za3,zaE];show ((min (st.length - 2) st.length+2:Nat):Int)=st.length+(2 - 2);omega
 rw[beq_eq_false_iff_ne.2 J,zdq] at H;by_cases N:x.1=4
 ·rw[beq_iff_eq.2 N,zdr] at H;have:=aIz (n:=4) (t:=2) N rfl h1;have:=aJW H (by omega);rw[N];show (st'.length:Int)=st.length+(1 - 2);omega
 rw[beq_eq_false_iff_ne.2 N,zdq] at H;by_cases Y:x.1=5
 ·rw[beq_iff_eq.2 Y,zdr] at H;have:=aIz (n:=5) (t:=2) Y rfl h1;have:=aJW H (by omega);rw[Y];show (st'.length:Int)=st.length+(1 - 2);omega
 rw[beq_eq_false_iff_ne.2 Y,zdq] at H;by_cases e6:x.1=6
 ·rw[beq_iff_eq.2 e6,zdr] at H;have:=aIz (n:=6) (t:=2) e6 rfl h1;have:=aJW H (by omega);rw[e6];show (st'.length:Int)=st.length+(1 - 2);omega
 rw[beq_eq_false_iff_ne.2 e6,zdq] at H;by_cases e7:x.1=7
 ·rw[beq_iff_eq.2 e7,zdr] at H;have:=aIz (n:=7) (t:=1) e7 rfl h1;have:=aLC H (by omega);rw[e7];show (st'.length:Int)=st.length+(1 - 1);omega
 rw[beq_eq_false_iff_ne.2 e7,zdq] at H;by_cases e8:x.1=8
 ·rw[beq_iff_eq.2 e8] at H;cases H
 ·rw[beq_eq_false_iff_ne.2 e8,zdq,za1] at H;have e9:x.1=9:=by omega
  rw[e9,<-H];show (st.length:Int)=st.length+(0 - 0);omega
theorem aKe: ∀{l:List InX} {ins b st st':List RS} {m d m' d':Int},l.foldlM aCo (m,d)=some (m',d')->(∀x∈l,OkI x)->(st.length:Int)=d->l.foldlM (exS ins) st=some st'->l.foldlM (exS ins) (b++st)=some (b++st')/\(st'.length:Int)=d'
 | [],ins,b,st,st',m,d,m',d',H,_,hd,J=>by
   have H:some (m,d)=some (m',d'):=H;have J:some st=some st':=J;simp only[za1,zag] at H J;obtain⟨rfl,rfl⟩:=H;subst J;exact⟨rfl,hd⟩
 |x::l,ins,b,st,st',m,d,m',d',H,Y,hd,J=>by
  have H:(aCo (m,d) x).bind (λz=>l.foldlM aCo z)=some (m',d'):=H;have J:(exS ins st x).bind (λz=>l.foldlM (exS ins) z)=some st':=J;show (exS ins (b++st) x).bind (λz=>l.foldlM (exS ins) z)=_/\_;rw[I3] at H;dsimp only at H;cases N:aIB d x with
  |false=>rw[N] at H;cases H
  |true=>
   rw[N,zdr] at H;have H:l.foldlM aCo (eS m (d+aIE x),d+aIE x)=some (m',d'):=H;have hx:=Y x (by simp);rw[<-hd] at N;rw[aLB N (λe=>(hx.nu (.inr e)).1)];cases hs:exS ins st x with
   |none=>rw[hs] at J;cases J
   |some a0=>
    rw[hs] at J;have J:l.foldlM (exS ins) a0=some st':=J;have hl:=aJX N hx hs;exact aKe (b:=b) H (λy hy=>Y y (zan _ hy)) (by omega) J
theorem aLD (d:Ad3) (I:Int->Prop) (N:Int) (l:List RS) (Q:zdR):ayw d qH [] (CS I N) 5 58 [.slc 0 0 l.length, .fn (.func 56) [] []] [eR.old l] (Go.Sy.okK λr _ _ _=>Q r)=
 LH I N (.slc 0 0 l.length) (.fn (.func 56) [] []) l.length (λz Q=>ah (uzR (eR.nth l (0+z.toNat))) (Q (!rV (eR.nth l (0+z.toNat))))) (λz=>Q (cB.enc (decide (z≥0)))):=by kernel_rfl
def aKX:MCtr:=λbl _ args=>match args with
 | [s, .fn (.func g) [] []]=>bif Nat.beq g 56 then(match vW bl 2 s with
   |some (b,_,n,c)=>some {X:=Unit,pre:=b&&(Nat.ble n 1000000&&eR.good uzR n c),spec:=λ_=>True,out:=λ_=>cB.enc (!(eR.list n c).all rV),ex:=λ_=>⟨(),trivial⟩}
   |none=>none) else none
 |_=>none
variable {d:Ad3}
theorem aKY : ∀B:Base,GlobPB d B->VU prog B 58 aKX:=aEL aDU (MPk.of MEk.nil) λbl nx args C J hp=>by
 unfold aKX at J;split at J
 ·rename_i s g;cases hg:Nat.beq g 56 with
  |false=>rw[hg] at J;cases J
  |true=>
   obtain rfl:=zab hg;rw[hg,zdr] at J;split at J
   ·rename_i b o n c hs;simp only[za1] at J;subst J;simp only[za2] at hp;obtain⟨rfl,hn,H⟩:=hp;have Y:(eR.list n c).length<2^62:=by rw[El.list_length];have:=zak hn;omega
    obtain⟨h1,h2⟩:=cq (f:=rnF [o] [] nx) hs H;have N: ∀C∈ [eR.old (eR.list n c)],cN C.kd=false:=by simp[cN,El.old]
    refine⟨[o], [eR.old (eR.list n c)], [.slc 0 0 (eR.list n c).length, .fn (.func 56) [] []],CS (λi=>0<=i/\i<=(eR.list n c).length/\be (λu=> !rV u) (eR.list n c) 0=be (λu=> !rV u) ((eR.list n c).drop i.toNat) i) (eR.list n c).length,5,aw h1 trivial,bH N,cd (by simp[El.old,BK.map]), ?_, ?_⟩
    ·simp only[SV.rns,h2 0 rfl];rfl
    ·refine azw (K:=Go.Sy.okK λr _ _ _=>r=cB.enc (!(eR.list n c).all rV)) ?_ λr bl' q w h=> ?_
     ·rw[aLD];refine pJ aFn Y (λz Q h0 h1 h=> ?_) ?_
      ·rw[za7];have:=El.good_list H _ (bw (d:=aFn) (l:=eR.list n c) (e:=z.toNat) (by omega));exact ac this h
      ·rw[pI _ _ _ (zat _),CP]
     ·cases r with
      |pan v=>exact h.elim
      |ok s=>
       obtain rfl:s=cB.enc (!(eR.list n c).all rV):=h;exact⟨(),trivial, [],⟨_,rfl,rfl⟩,zcA,trivial,we N rfl _⟩
   ·cases J
 ·cases J
theorem aMm (a b:zdG) (p:Addr) (w:World) (h:w.cell? ⟨2,0,none⟩=some (evE p)):Calls prog 70 #[.agg #[.string a, .string b]] w λe w'=>e= .panicked [{v:=evE p,recovered:=false}]/\Below w.heap.size w w':=by
 have hlt:2<w.heap.size:=World.block_lt_of_cell? w _ h;go_enter func70,ntmps70;go_wp2;exact⟨rfl,rfl,((zdC _ _).alloc (za0 _) _).alloc (by simp) _⟩
def aMn (a:Addr):MCtr:=λ_ _ args=>match args with
 | [.agg [.val (.string x), .val (.string y)]]=>some {X:=Unit,pre:=true,spec:=λ_=>True,out:=λ_=>cR.enc (x,y),pan:=λ_=>some (evE a),ex:=λ_=>⟨(),trivial⟩}
 |_=>none
theorem aLE {B:Base} (hB:GlobPB d B):VU prog B 70 (aMn d.p):=by
 intro bl β w nx args C H hit N a0 J hp;unfold aMn at J;split at J
 ·rename_i x y;simp only[za1] at J;subst J;refine Calls.mono (aMm x y d.p w (hB w H.below).2.2) ?_;rintro e w' ⟨rfl,Y⟩;obtain⟨g1,g2,_⟩:=abx (s:= .tup []) H N (by simp[SV.ids,SV.idss]) Y;exact⟨(),trivial,β,rfl,g1,g2,trivial⟩
 ·cases J
abbrev EX11:=ByteArray×Bool×List RS
def byX (x:EX11) (i:Nat):UInt8:=x.1.data.toList.getD i 0
def tlX (x:EX11) (i:Nat):List UInt8:=x.1.data.toList.drop i
def c11 (x:EX11):Nat->EX11
 |0=>(⟨(0::byX x 1::byX x 2::tlX x 3).toArray⟩,false,x.2.2)
 |1=>(⟨(1::byX x 1::tlX x 2).toArray⟩,false,x.2.2)
 |2=>(⟨(2::byX x 1::tlX x 2).toArray⟩,false,x.2.2)
 |3=>(⟨(3::tlX x 1).toArray⟩,false,x.2.2)
 |4=>(⟨(4::tlX x 1).toArray⟩,false,x.2.2)
 |5=>(⟨(5::tlX x 1).toArray⟩,false,x.2.2)
 |6=>(⟨(6::tlX x 1).toArray⟩,false,x.2.2)
 |7=>(⟨(7::tlX x 1).toArray⟩,false,x.2.2)
 |8=>(⟨(8::tlX x 1).toArray⟩,false,x.2.2)
 |9=>(⟨[9].toArray⟩,false,x.2.2)
 |_=>(⟨[].toArray⟩,true,x.2.2)
def aKZ (r k:Nat) (I:EX11->Prop):zdV:=aES 61 (aES 151 λf j=>bif Nat.beq f 116&&Nat.beq j 3 then some (λA=>{X:=EX11,inv:=I,tm:=λx=> [(4, .val (.bool x.2.1))],bk:= [(r,λx _=> [.val (.string x.1)])],st:= [(k,λx=> [.slc A.nx 0 x.2.2.length])],gr:= [{src:= .cell k 0 0,sz:=2,n:=λx=>x.2.2.length,get:=λx=>eR.get x.2.2}],mu:=λx=>x.1.size,keep:= [0,1,3],clean:=by intro p hp x e;simp at hp;subst hp;rfl,cleanG:=λg hg x e=>(by simp at hg;subst hg;exact eR.ids _),sp:= [λx=>c11 x 10,λx=>c11 x 0,λx=>c11 x 1,λx=>c11 x 2,λx=>c11 x 3,λx=>c11 x 4,λx=>c11 x 5,λx=>c11 x 6,λx=>c11 x 7,λx=>c11 x 8,λx=>c11 x 9]}) else none)
def aLX:List (FuncId×Ctr):=(17,aEV)::(60,k2 cI cI cRE (λa b=>cl a&&cl b) rMk)::gIs
def aLY (d:Ad3):zdW:=(117,aJ8)::(70,aMn d.p)::(58,aKX)::azT d
def aMN (q:Nat) (e:Bool) (s:zdG) (m:Nat) (g:zdM) (z:EX11):Prop:=(TV.v (.val (.bool e))=TV.v (.val (.bool z.2.1))/\TV.v (.yl 61)=TV.v (.yl 61)/\TV.v (.ptr 56 0 0)=TV.v (.ptr 56 0 0)/\TV.v (.ptr 67 0 0)=TV.v (.ptr 67 0 0)/\True)/\
 ((([SV.val (.string s)]= [SV.val (.string z.1)]/\True)/\True)/\(([SV.slc q 0 m]= [SV.slc q 0 z.2.2.length]/\True)/\(ah (Nat.beq 2 2&&decide (z.2.2.length<=m)) (∀e,e<z.2.2.length->g e=eR.get z.2.2 e)/\True)))
def aJb (I:EX11->Prop) (z:EX11) (x:InX) (r:zdG) (q:Nat) (m:Nat) (g:zdM):Prop:= ∃H:EX11,I H/\(H.1.size<z.1.size/\aMN q (x.1==9) r m g H)
def aIP (g:zdM) (n:Nat) (v:RS):zdM:=ald g (λe=>((gA v).drop (e*2)).take 2) n 0
def pushT (m n:Nat) (K:Prop):Prop:=ah (decide (0<1)&&decide (0+1<=1)&&decide (n<=m)&&decide ((n+1)*32<=140737488355328)&&true) K
def ixE (m n:Nat) (i:Int) (K:Prop):Prop:=ah (decide (0<=i)&&decide (i<(n:Int))&&decide (0+i.toNat<m)) (ah (decide (0+i.toNat<m)) K)
def aJ3 (m n:Nat) (K:Prop):Prop:=ah (inR .i64 ((n:Int) - 1)) (ixE m n ((n:Int) - 1) (ah (inR .i64 ((n:Int) - 1)) (ah (decide (0<=(n:Int) - 1)&&decide ((n:Int) - 1<=(n:Int))&&decide (0+n<=m)&&true) K)))
def lst (n:Nat):Nat:=((n:Int) - 1).toNat
def aJw (I:EX11->Prop) (z:EX11) (x:InX) (r:zdG) (q:Nat) (f:RS->RS->RS×Int) (E:Prop):Prop:=aJ3 z.2.2.length z.2.2.length (aJ3 z.2.2.length (lst z.2.2.length)
 (ah (uzR (eR.nth z.2.2 (0+lst (lst z.2.2.length)))&&uzR (eR.nth z.2.2 (0+lst z.2.2.length))) (ag ((f (eR.nth z.2.2 (0+lst (lst z.2.2.length))) (eR.nth z.2.2 (0+lst z.2.2.length))).2==0)
   (U11 (pushT z.2.2.length (lst (lst z.2.2.length)) (aJb I z x r q (lst (lst z.2.2.length)+1) (aIP (eR.get z.2.2) (lst (lst z.2.2.length)) (f (eR.nth z.2.2 (0+lst (lst z.2.2.length))) (eR.nth z.2.2 (0+lst z.2.2.length))).1)))) (U11 E))))
structure EIds where
 push:Nat
 inp:Nat
 dup:Nat
 swap:Nat
 add:Nat
 sub:Nat
 mul:Nat
 inv:Nat
 no:Nat
def aLZ (D:EIds) (I:EX11->Prop) (ins:List RS) (z:EX11) (x:InX) (r:zdG) (E:Prop):Prop:=
 ag (x.1==0) (pushT z.2.2.length z.2.2.length (aJb I z x r D.push (z.2.2.length+1) (aIP (eR.get z.2.2) z.2.2.length x.2.2)))
 (ag (x.1==1) (ag (decide (x.2.1<(ins.length:Int))) (U11 (ixE ins.length ins.length x.2.1 (pushT z.2.2.length z.2.2.length (aJb I z x r D.inp (z.2.2.length+1) (aIP (eR.get z.2.2) z.2.2.length (eR.nth ins (0+x.2.1.toNat))))))) (U11 E))
 (ag (x.1==2) (ah (inR .i64 ((z.2.2.length:Int) - 1)) (ah (inR .i64 ((z.2.2.length:Int) - 1 - x.2.1)) (ixE z.2.2.length z.2.2.length ((z.2.2.length:Int) - 1 - x.2.1) (pushT z.2.2.length z.2.2.length (aJb I z x r D.dup (z.2.2.length+1) (aIP (eR.get z.2.2) z.2.2.length (eR.nth z.2.2 (0+((z.2.2.length:Int) - 1 - x.2.1).toNat))))))))
 (ag (x.1==3) (aJ3 z.2.2.length z.2.2.length (aJ3 z.2.2.length (lst z.2.2.length) (pushT z.2.2.length (lst (lst z.2.2.length)) (pushT (lst (lst z.2.2.length)+1) (lst (lst z.2.2.length)+1)
   (aJb I z x r D.swap (lst (lst z.2.2.length)+1+1) (aIP (aIP (eR.get z.2.2) (lst (lst z.2.2.length)) (eR.nth z.2.2 (0+lst z.2.2.length))) (lst (lst z.2.2.length)+1) (eR.nth z.2.2 (0+lst (lst z.2.2.length)))))))))
 (ag (x.1==4) (aJw I z x r D.add fZ E) (ag (x.1==5) (aJw I z x r D.sub iF E) (ag (x.1==6) (aJw I z x r D.mul ale E)
 (ag (x.1==7) (aJ3 z.2.2.length z.2.2.length (ah (uzR (rMk 1 1).1&&uzR (eR.nth z.2.2 (0+lst z.2.2.length))) (ag ((cA (rMk 1 1).1 (eR.nth z.2.2 (0+lst z.2.2.length))).2==0)
   (U11 (pushT z.2.2.length (lst z.2.2.length) (aJb I z x r D.inv (lst z.2.2.length+1) (aIP (eR.get z.2.2) (lst z.2.2.length) (cA (rMk 1 1).1 (eR.nth z.2.2 (0+lst z.2.2.length))).1)))) (U11 E))))
 (ag (x.1==8) (aJ3 z.2.2.length z.2.2.length (U11 E)) (aJb I z x r D.no z.2.2.length (eR.get z.2.2))))))))))
def aIT (D:EIds) (I:EX11->Prop) (ins:List RS) (z:EX11) (E:Prop) (x:InX) (r:zdG):Prop:=aLZ D I ins z x r E
def aMO (D:EIds) (I:EX11->Prop) (ins:List RS) (x:EX11) (E:Prop):Nat->Prop
 |0=>U11 (U11 (aza ⟨(tlX x 3).toArray⟩ (((byX x 1).toNat*256+(byX x 2).toNat:Nat):Int) (λt r=>ah (decide (t.size<=100000)) (ag ((DR t).2==0) (U11 (ayb (0,0,(DR t).1) r (aIT D I ins (c11 x 0) E) E)) (U11 E))) E))
 |1=>U11 (U11 (ayb (1,((byX x 1).toNat:Int),noR) ⟨(tlX x 2).toArray⟩ (aIT D I ins (c11 x 1) E) E))
 |2=>U11 (U11 (ayb (2,((byX x 1).toNat:Int),noR) ⟨(tlX x 2).toArray⟩ (aIT D I ins (c11 x 2) E) E))
 |3=>U11 (ayb (3,0,noR) ⟨(tlX x 1).toArray⟩ (aIT D I ins (c11 x 3) E) E)
 |4=>U11 (ayb (4,0,noR) ⟨(tlX x 1).toArray⟩ (aIT D I ins (c11 x 4) E) E)
 |5=>U11 (ayb (5,0,noR) ⟨(tlX x 1).toArray⟩ (aIT D I ins (c11 x 5) E) E)
 |6=>U11 (ayb (6,0,noR) ⟨(tlX x 1).toArray⟩ (aIT D I ins (c11 x 6) E) E)
 |7=>U11 (ayb (7,0,noR) ⟨(tlX x 1).toArray⟩ (aIT D I ins (c11 x 7) E) E)
 |8=>U11 (ayb (8,0,noR) ⟨(tlX x 1).toArray⟩ (aIT D I ins (c11 x 8) E) E)
 |_=>U11 (ayb (9,0,noR) ⟨[].toArray⟩ (aIT D I ins (c11 x 9) E) E)
def aJK (D:EIds) (d:Ad3) (I:EX11->Prop) (ins:List RS) (K:zdR) (k:Nat):Prop:= ∀x:EX11,I (c11 x k)->aMO D I ins x (azn d (K (cRE.enc (aFn,110)))) k
def aL0 (D:EIds) (d:Ad3) (I:EX11->Prop) (s:zdG) (ins:List RS) (K:zdR):Prop:=
 ah ((Nat.ble ins.length ins.length&&Nat.beq 2 2&&true)&&(Nat.ble ins.length 1000000&&eR.good uzR ins.length (eR.get ins))) (U11 (ag (!!(eR.list ins.length (eR.get ins)).all rV)
  (U11 (U11 (ag ((ayE s).2==0) (U11 (ag (decide ((ins.length:Int)<=6)) (U11 (ag (decide ((s.size:Int)<=4096))
    (U11 (∃H:EX11,I H/\(((TV.v (.val (.bool false))=TV.v (.val (.bool H.2.1))/\TV.v (.yl 61)=TV.v (.yl 61)/\TV.v (.ptr 56 0 0)=TV.v (.ptr 56 0 0)/\TV.v (.ptr 67 0 0)=TV.v (.ptr 67 0 0)/\True)/\((([SV.val (.string s)]= [SV.val (.string H.1)]/\True)/\True)/\(([SV.val (.slice none 0 0)]= [SV.val (.slice none H.2.2.length 0)]/\True)/\(H.2.2.length=0/\True))))/\
      ((∀x:EX11,I x->c11 x 10=x\/c11 x 0=x\/c11 x 1=x\/c11 x 2=x\/c11 x 3=x\/c11 x 4=x\/c11 x 5=x\/c11 x 6=x\/c11 x 7=x\/c11 x 8=x\/c11 x 9=x\/False)/\
      ((∀x:EX11,I (c11 x 10)->aJ3 x.2.2.length x.2.2.length (K (cRE.enc (eR.nth x.2.2 (0+lst x.2.2.length),0))))/\(aJK D d I ins K 0/\(aJK D d I ins K 1/\(aJK D d I ins K 2/\(aJK D d I ins K 3/\(aJK D d I ins K 4/\(aJK D d I ins K 5/\(aJK D d I ins K 6/\(aJK D d I ins K 7/\(aJK D d I ins K 8/\(aJK D d I ins K 9/\True)))))))))))))))
    (U11 (azn d (K (cRE.enc (aFn,110))))))) (U11 (azn d (K (cRE.enc (aFn,110))))))) (U11 (azn d (K (cRE.enc (aFn,110)))))))) (U11 (azn d (K (cRE.enc (aFn,110)))))))
def aMo:Option (List RS)->RS×Int
 |some st=>(I2 st,0)
 |none=>(noR,110)
theorem aMp {s:zdG} {ins:List RS} (J:(ayE s).2=0) (hi:(ins.all rV&&decide (ins.length<=6))=true) (H:s.size<=4096):exF s ins=aMo (goI (exS ins) s []):=by
 unfold exF;rw[J,hi,aBf H];cases aIH s with
 |none=>rfl
 |some l=>
  show exL ins l=aMo (l.foldlM (exS ins) []);unfold exL;cases l.foldlM (exS ins) []<;>rfl
variable {st:List RS} {n:Nat}
theorem aIL {v:RS} {e:Nat} (Y:n<=st.length) (N:e<n+1):aIP (eR.get st) n v e=eR.get (st.take n++ [v]) e:=by
 have H:(st.take n).length=n:=by rw[zaE];omega
 unfold aIP ald El.get El.nth;rw[aB];show _=gA (mb aFn (st.take n++ [v]) e);rw[aS,H];by_cases h:e<n
 ·rw[zdp h,if_neg (by omega),zdr];have: ∀(l:List RS) (n e:Nat),e<n->mb aFn (l.take n) e=mb aFn l e:=by
   intro l
   induction l with
   |nil=>intro n e _;rw[List.take_nil]
   |cons a l J=>
    intro n e h;cases n with
    |zero=>omega
    |succ n=>cases e with
     |zero=>rfl
     |succ e=>exact J n e (by omega)
  rw[this st n e h];rfl
 ·obtain rfl:e=n:=by omega
  rw[zds h,if_pos rfl,zaJ];rfl
theorem aJf (n:Nat):lst n=n - 1:=by unfold lst;omega
variable {m:Nat} {K:Prop}
theorem aIU (h:n<=m) (H:m<=1000000) (k:K):pushT m n K:=ac (by
 rw[zdp (Nat.zero_lt_one),zdp (show 0+1<=1 by omega),zdp h,zdp (show (n+1)*32<=140737488355328 by omega)];rfl) k
theorem aKf {i:Int} (h0:0<=i) (h1:i<(n:Int)) (h:n<=m) (k:K):ixE m n i K:=ac (by
 rw[zdp h0,zdp h1,zdp (by omega)];rfl) (ac (zdp (by omega)) k)
theorem aIO (h1:1<=n) (h:n<=m) (H:m<=1000000) (k:K):aJ3 m n K:=ac (ej (by omega) (by omega)) (aKf (by omega) (by omega) h (ac (ej (by omega) (by omega)) (ac (by
 rw[zdp (show (0:Int)<=(n:Int) - 1 by omega),zdp (show (n:Int) - 1<=(n:Int) by omega),zdp (show 0+n<=m by omega)];rfl) k)))
variable {I:EX11->Prop} {z:EX11} {x:InX} {r:zdG} {st':List RS} {q:Nat}
theorem aJx {g:zdM} (J:I (r,x.1==9,st')) (N:r.size<z.1.size) (H:m=st'.length) (hg: ∀e,e<st'.length->g e=eR.get st' e):aJb I z x r q m g:=
 ⟨(r,x.1==9,st'),J,N,⟨⟨rfl,rfl,rfl,rfl,trivial⟩,⟨⟨rfl,trivial⟩,trivial⟩,⟨by rw[H],trivial⟩,ac (by rw[H,zdp (za0 _)];rfl) hg,trivial⟩⟩
theorem aJy {i:Nat} (h: ∀v∈st,uzR v=true) (hi:i<st.length):uzR (eR.nth st i)=true:=h _ (bw (d:=eR.d) hi)
variable {E:Prop}
theorem aKg {f:RS->RS->RS×Int} (h2:2<=z.2.2.length) (hl:z.2.2.length<=4096) (H: ∀v∈z.2.2,uzR v=true) (hz:r.size<z.1.size)
 (hn:aIA z.2.2 (f (aIJ z.2.2) (I2 z.2.2))=none->E) (N: ∀J,aIA z.2.2 (f (aIJ z.2.2) (I2 z.2.2))=some J->I (r,x.1==9,J)):aJw I z x r q f E:=by
 unfold aJw;rw[aJf,aJf,za7,za7];have Y:eR.nth z.2.2 (z.2.2.length - 1 - 1)=aIJ z.2.2:=by unfold aIJ;rw[show z.2.2.length - 1 - 1=z.2.2.length - 2 by omega];rfl
 have eb:eR.nth z.2.2 (z.2.2.length - 1)=I2 z.2.2:=rfl;have ua:uzR (aIJ z.2.2)=true:=aJy H (by omega);have ub:uzR (I2 z.2.2)=true:=aJy H (by omega);rw[Y,eb];refine aIO (by omega) (za0 _) (by omega) (aIO (by omega) (by omega) (by omega) (ac (by rw[ua,ub];rfl) (bI (λh=>λ_ _=> ?_) λh=>λ_ _=>hn (by unfold aIA;rw[h];rfl))));have N:=N (z.2.2.take (z.2.2.length - 2)++ [(f (aIJ z.2.2) (I2 z.2.2)).1]) (by unfold aIA;rw[h];rfl);refine aIU (by omega) (by omega) (aJx N hz (by rw[za3,zaE,za6];omega) λe he=> ?_);rw[za3,zaE,za6] at he;rw[show z.2.2.length - 1 - 1=z.2.2.length - 2 by omega];exact aIL (by omega) (by omega)
variable {D:EIds} {ins:List RS}
theorem aMq (l0:OkI x) (hd:aIB z.2.2.length x=true) (hl:z.2.2.length<=4096) (e0: ∀v∈z.2.2,uzR v=true) (q0:ins.length<=6) (hz:r.size<z.1.size)
 (N:exS ins z.2.2 x=none->E) (J: ∀a0,exS ins z.2.2 x=some a0->I (r,x.1==9,a0)):aLZ D I ins z x r E:=by
 obtain⟨h1,h2⟩:=aIK hd;have H: ∀{q:Nat} {v:RS},exS ins z.2.2 x=some (z.2.2++ [v])->pushT z.2.2.length z.2.2.length (aJb I z x r q (z.2.2.length+1) (aIP (eR.get z.2.2) z.2.2.length v)):=λ{q v} h=>
  aIU (za0 _) (by omega) (aJx (J _ h) hz (by rw[za3];rfl) λe he=>by
   rw[za3,za6] at he;have:=aIL (st:=z.2.2) (n:=z.2.2.length) (v:=v) (za0 _) he
   rw[List.take_length] at this;exact this)
 unfold exS at N J H;refine bI (λe=> ?_) λe=>bI (λY=> ?_) λY=>bI (λe2=> ?_) λe2=>bI (λe3=> ?_) λe3=>bI (λe4=> ?_) λe4=>bI (λe5=> ?_) λe5=>bI (λe6=> ?_) λe6=>bI (λe7=> ?_) λe7=>bI (λe8=> ?_) λe8=> ?_
 ·rw[e] at H;exact H rfl
 ·rw[e,Y] at H N;have n0:x.1=1:=by simpa using Y
  have hx:=(l0.nu (.inl n0)).1;refine bI (λc=>λ_ _=> ?_) λc=>λ_ _=>N (by rw[c];rfl);rw[c] at H;refine aKf hx (zdu c) (za0 _) (H ?_);rw[za7];rfl
 ·rw[e,Y,e2] at H;have i0:x.1=2:=by simpa using e2
  have hx:=(l0.nu (.inr i0)).1;have:=h2 i0;refine ac (ej (by omega) (by omega)) (ac (ej (by omega) (by omega)) (aKf (by omega) (by omega) (za0 _) (H ?_)));rw[za7,show ((z.2.2.length:Int) - 1 - x.2.1).toNat=z.2.2.length - 1 - x.2.1.toNat by omega];rfl
 ·rw[e,Y,e2,e3] at J;have o0:x.1=3:=by simpa using e3
  have:=aIz (n:=3) (t:=2) o0 rfl h1;have J:=J _ rfl;rw[aJf,aJf,za7,za7];have ea:eR.nth z.2.2 (z.2.2.length - 1 - 1)=aIJ z.2.2:=by unfold aIJ;rw[show z.2.2.length - 1 - 1=z.2.2.length - 2 by omega];rfl
  have eb:eR.nth z.2.2 (z.2.2.length - 1)=I2 z.2.2:=rfl;rw[ea,eb,show z.2.2.length - 1 - 1=z.2.2.length - 2 by omega];refine aIO (by omega) (za0 _) (by omega) (aIO (by omega) (by omega) (by omega) (aIU (by omega) (by omega) (aIU (za0 _) (by omega) (aJx J hz (by rw[za3,zaE];show _=_+2;omega) λe he=> ?_))));rw[za3,zaE] at he;have he:e<min (z.2.2.length - 2) z.2.2.length+2:=he;have g1: ∀e,e<z.2.2.length - 2+1->aIP (eR.get z.2.2) (z.2.2.length - 2) (I2 z.2.2) e=eR.get (z.2.2.take (z.2.2.length - 2)++ [I2 z.2.2]) e:=λe he=>aIL (by omega) he;have j0:(z.2.2.take (z.2.2.length - 2)++ [I2 z.2.2]).length=z.2.2.length - 2+1:=by rw[za3,zaE,za6];omega
  have g2:=aIL (st:=z.2.2.take (z.2.2.length - 2)++ [I2 z.2.2]) (n:=z.2.2.length - 2+1) (v:=aIJ z.2.2) (e:=e) (by rw[j0];exact za0 _) (by omega);have ht:(z.2.2.take (z.2.2.length - 2)++ [I2 z.2.2]).take (z.2.2.length - 2+1)=z.2.2.take (z.2.2.length - 2)++ [I2 z.2.2]:=zaI (by rw[j0];exact za0 _);rw[ht] at g2;rw[show z.2.2.take (z.2.2.length - 2)++ [I2 z.2.2,aIJ z.2.2]=z.2.2.take (z.2.2.length - 2)++ [I2 z.2.2]++ [aIJ z.2.2] by simp,<-g2];unfold aIP at g1 ⊢;unfold ald;rw[aB];by_cases g0:e<z.2.2.length - 2+1
  ·rw[zdp g0,zdr,zdr];exact g1 e g0
  ·rw[zds g0];rfl
 ·rw[e,Y,e2,e3,e4] at N J;have:=aIz (n:=4) (t:=2) (by simpa using e4) rfl h1;exact aKg (by omega) hl e0 hz N J
 ·rw[e,Y,e2,e3,e4,e5] at N J;have:=aIz (n:=5) (t:=2) (by simpa using e5) rfl h1;exact aKg (by omega) hl e0 hz N J
 ·rw[e,Y,e2,e3,e4,e5,e6] at N J;have:=aIz (n:=6) (t:=2) (by simpa using e6) rfl h1;exact aKg (by omega) hl e0 hz N J
 ·rw[e,Y,e2,e3,e4,e5,e6,e7] at N J;have:=aIz (n:=7) (t:=1) (by simpa using e7) rfl h1;have N:aIR z.2.2 (cA (rMk 1 1).1 (I2 z.2.2))=none->E:=N;have J: ∀a0,aIR z.2.2 (cA (rMk 1 1).1 (I2 z.2.2))=some a0->I (r,x.1==9,a0):=J;rw[aJf,za7];have eb:eR.nth z.2.2 (z.2.2.length - 1)=I2 z.2.2:=rfl;have ub:uzR (I2 z.2.2)=true:=aJy e0 (by omega);rw[eb];refine aIO (by omega) (za0 _) (by omega) (ac (by rw[alg,ub];rfl) (bI (λh=>λ_ _=> ?_) λh=>λ_ _=>N (by unfold aIR;rw[h];rfl)));have J:=J (z.2.2.take (z.2.2.length - 1)++ [(cA (rMk 1 1).1 (I2 z.2.2)).1]) (by unfold aIR;rw[h];rfl);refine aIU (by omega) (by omega) (aJx J hz (by rw[za3,zaE,za6];omega) λe he=> ?_);rw[za3,zaE,za6] at he;exact aIL (by omega) (by omega)
 ·rw[e,Y,e2,e3,e4,e5,e6,e7,e8] at N;have:=aIz (n:=8) (t:=1) (by simpa using e8) rfl h1;exact aIO (by omega) (za0 _) (by omega) λ_ _=>N rfl
 ·rw[e,Y,e2,e3,e4,e5,e6,e7,e8] at J;exact aJx (J _ rfl) hz rfl λ_ _=>rfl
structure EI11 (s:ByteArray) (ins:List RS) (z:EX11):Prop where
 ver:z.2.1=false-> ∃m y,goI aCo z.1 (m,(z.2.2.length:Int))=some y/\y.2=1
 go:z.2.1=false->aMo (goI (exS ins) z.1 z.2.2)=exF s ins
 en:z.2.1=true->z.2.2.length=1/\(I2 z.2.2,0)=exF s ins/\z.1=⟨#[]⟩
 hi:z.2.2.length+z.1.size<=4096
 uz: ∀v∈z.2.2,uzR v=true
theorem aK0 (hx:OkI x) (hd:aIB st.length x=true) (hi: ∀v∈ins,uzR v=true) (H: ∀v∈st,uzR v=true) (h:exS ins st x=some st'): ∀v∈st',uzR v=true:=by
 obtain⟨h1,h2⟩:=aIK hd;have app: ∀{l:List RS} {v:RS},(∀u∈l,uzR u=true)->uzR v=true-> ∀u∈l++ [v],uzR u=true:=λ{l v} hl hv u N=>by
  rcases za8.1 N with N|N
  ·exact hl u N
  ·rw[zaj.1 N];exact hv
 have tk: ∀n,∀v∈st.take n,uzR v=true:=λn v hv=>H v (zbd hv);have two: ∀{p:RS×Int},uzR p.1=true->aIA st p=some st'-> ∀v∈st',uzR v=true:=λ{p} hp hq=>by
  unfold aIA at hq;cases h0:p.2==0 with
  |false=>rw[h0] at hq;cases hq
  |true=>
   rw[h0,zdr,za1] at hq;subst hq;exact app (tk _) hp
 unfold exS at h;cases e0:x.1==0 with
 |true=>
  rw[e0,zdr,za1] at h;subst h;exact app H (Ie (hx.v (by simpa using e0)))
 |false=>
 rw[e0,zdq] at h;cases e1:x.1==1 with
 |true=>
  rw[e1,zdr] at h;cases Y:decide (x.2.1<(ins.length:Int)) with
  |false=>rw[Y] at h;cases h
  |true=>
   rw[Y,zdr,za1] at h;subst h;have a0:=(hx.nu (.inl (by simpa using e1))).1;have Y:=zdu Y;exact app H (hi _ (bw (d:=noR) (by omega)))
 |false=>
 rw[e1,zdq] at h;cases e2:x.1==2 with
 |true=>
  rw[e2,zdr,za1] at h;subst h;have J:x.1=2:=by simpa using e2
  have:=h2 J;have:=(hx.nu (.inr J)).1;exact app H (H _ (bw (d:=noR) (by omega)))
 |false=>
 rw[e2,zdq] at h;cases e3:x.1==3 with
 |true=>
  rw[e3,zdr,za1] at h;subst h;have:=aIz (n:=3) (t:=2) (by simpa using e3) rfl h1;rw[show st.take (st.length - 2)++ [I2 st,aIJ st]=st.take (st.length - 2)++ [I2 st]++ [aIJ st] by simp];exact app (app (tk _) (H _ (bw (d:=noR) (by omega)))) (H _ (bw (d:=noR) (by omega)))
 |false=>
 rw[e3,zdq] at h;cases e4:x.1==4 with
 |true=>rw[e4,zdr] at h;exact two (Lq _ _) h
 |false=>
 rw[e4,zdq] at h;cases e5:x.1==5 with
 |true=>rw[e5,zdr] at h;exact two (Lr _ _) h
 |false=>
 rw[e5,zdq] at h;cases e6:x.1==6 with
 |true=>rw[e6,zdr] at h;exact two (gI _ _) h
 |false=>
 rw[e6,zdq] at h;cases e7:x.1==7 with
 |true=>
  rw[e7,zdr] at h;unfold aIR at h;cases h0:(cA (rMk 1 1).1 (I2 st)).2==0 with
  |false=>rw[h0] at h;cases h
  |true=>
   rw[h0,zdr,za1] at h;subst h;exact app (tk _) (lY _ _)
 |false=>
 rw[e7,zdq] at h;cases e8:x.1==8 with
 |true=>rw[e8] at h;cases h
 |false=>
  rw[e8,zdq,za1] at h;subst h;exact H
variable {s:zdG}
theorem aMr {l:List UInt8} (h:s.data.toList=l):(⟨l.toArray⟩:zdG)=s:=gT (by rw[h])
theorem aKB (x:EX11) (h:EI11 s ins x):c11 x 10=x\/c11 x 0=x\/c11 x 1=x\/c11 x 2=x\/c11 x 3=x\/c11 x 4=x\/c11 x 5=x\/c11 x 6=x\/c11 x 7=x\/c11 x 8=x\/c11 x 9=x\/False:=by
 obtain⟨q,e,st⟩:=x;obtain⟨ver,go,en,hi,uz⟩:=h;dsimp only at ver go en hi uz;cases e with
 |true=>
  obtain⟨_,_,e3⟩:=en rfl;exact .inl (by rw[e3];rfl)
 |false=>
  obtain⟨m,y,hy,_⟩:=ver rfl;rw[ayn] at hy;cases hl:vC q.data.toList with
  |none=>rw[hl] at hy;cases hy
  |some p=>
   obtain⟨i,t⟩:=p;obtain⟨ho,hs,h9⟩:=pw hl;have j0:=ho.lo;have i0:=ho.hi;have e0: ∀{k:Nat} {l:List UInt8},q.data.toList=l->(⟨l.toArray⟩,false,st)=c11 (q,false,st) k->c11 (q,false,st) k=(q,false,st):=λ{k l} h1 h2=>by
    rw[<-h2,aMr h1]
   have hc: ∀k:Nat,3<=k->k<10->i.1=(k:Int)->q.data.toList=UInt8.ofNat k::t:=λk h3 g0 H=>by
    rw[hs];unfold cn;have Y:(i.1==0)=false:=by rw[zdw];omega
    have a1:(i.1==1||i.1==2)=false:=by rw[zbr,zdw,zdw];omega
    rw[Y,a1,H];rfl
   have N: ∀k:Nat,1<=k->k<3->i.1=(k:Int)->q.data.toList=UInt8.ofNat k::UInt8.ofNat i.2.1.toNat::t:=λk h1 h3 H=>by
    rw[hs];unfold cn;have Y:(i.1==0)=false:=by rw[zdw];omega
    have a1:(i.1==1||i.1==2)=true:=by
     have:k=1\/k=2:=by omega
     rcases this with rfl|rfl<;>rw[H]<;>rfl
    rw[Y,a1,H];rfl
   have ha:i.1=0-> ∃a b r,q.data.toList=0::a::b::r:=λH=>by
    refine⟨UInt8.ofNat ((gk i.2.2).size / 256),UInt8.ofNat (gk i.2.2).size,(gk i.2.2).data.toList++t, ?_⟩;rw[hs];unfold cn;rw[H];rfl
   have J:i.1=0\/i.1=1\/i.1=2\/i.1=3\/i.1=4\/i.1=5\/i.1=6\/i.1=7\/i.1=8\/i.1=9:=by omega
   have done: ∀k:Nat,(∃l,q.data.toList=l/\(⟨l.toArray⟩,false,st)=c11 (q,false,st) k)->c11 (q,false,st) k=(q,false,st):=λk ⟨l,h1,h2⟩=>e0 h1 h2
   have d3: ∀k:Nat,3<=k->k<9->i.1=(k:Int)->((⟨(UInt8.ofNat k::tlX (q,false,st) 1).toArray⟩:zdG),false,st)=c11 (q,false,st) k->c11 (q,false,st) k=(q,false,st):=λk h3 h9 H hh=>done k ⟨_,hc k h3 (by omega) H,by
    rw[<-hh];unfold tlX
    rw[hc k h3 (by omega) H];rfl⟩
   rcases J with h|h|h|h|h|h|h|h|h|h
   ·obtain⟨a,b,r,hq⟩:=ha h;refine .inr (.inl (done 0 ⟨_,hq, ?_⟩));unfold c11 byX tlX;dsimp only;rw[hq];rfl
   ·refine .inr (.inr (.inl (done 1 ⟨_,N 1 (by decide) (by decide) h, ?_⟩)));unfold c11 byX tlX;dsimp only;rw[N 1 (by decide) (by decide) h];rfl
   ·refine .inr (.inr (.inr (.inl (done 2 ⟨_,N 2 (by decide) (by decide) h, ?_⟩))));unfold c11 byX tlX;dsimp only;rw[N 2 (by decide) (by decide) h];rfl
   ·exact .inr (.inr (.inr (.inr (.inl (d3 3 (by decide) (by decide) h rfl)))))
   ·exact .inr (.inr (.inr (.inr (.inr (.inl (d3 4 (by decide) (by decide) h rfl))))))
   ·exact .inr (.inr (.inr (.inr (.inr (.inr (.inl (d3 5 (by decide) (by decide) h rfl)))))))
   ·exact .inr (.inr (.inr (.inr (.inr (.inr (.inr (.inl (d3 6 (by decide) (by decide) h rfl))))))))
   ·exact .inr (.inr (.inr (.inr (.inr (.inr (.inr (.inr (.inl (d3 7 (by decide) (by decide) h rfl)))))))))
   ·exact .inr (.inr (.inr (.inr (.inr (.inr (.inr (.inr (.inr (.inl (d3 8 (by decide) (by decide) h rfl))))))))))
   ·refine .inr (.inr (.inr (.inr (.inr (.inr (.inr (.inr (.inr (.inr (.inl (done 9 ⟨_,hc 9 (by decide) (by decide) h, ?_⟩)))))))))));rw[h9 h];rfl
variable {d:Ad3}
theorem aK1 {K:zdR} (hi: ∀v∈ins,uzR v=true) (q0:ins.length<=1000000) (k:K (cRE.enc (exF s ins))):aL0 D d (EI11 s ins) s ins K:=by
 have Y:eR.list ins.length (eR.get ins)=ins:=El.list_get;have kb: ∀_:(noR,110)=exF s ins,azn d (K (cRE.enc (aFn,110))):=λe=>aBg (by rw[<-e] at k;exact k);refine ac (by rw[zae (za0 _),zae q0,El.good_get hi];rfl) λ_ _=>bI (λhv=>λ_ _=>λ_ _=> ?_) λhv=>λ_ _=>kb ?_
 case refine_2=>
  rw[Y,Bool.not_not] at hv;unfold exF;rw[hv,Bool.false_and,Bool.and_false];rfl
 rw[Y,Bool.not_not] at hv;refine bI (λhw=>λ_ _=> ?_) λhw=>λ_ _=>kb ?_
 case refine_2=>
  unfold exF;rw[hw];rfl
 have J:(ayE s).2=0:=by simpa using hw
 refine bI (λh6=>λ_ _=> ?_) λh6=>λ_ _=>kb ?_
 case refine_2=>
  have h6:=zdv h6;unfold exF;rw[hw,hv,zds (by omega)];rfl
 have h6:=zdu h6;have j0:(ins.all rV&&decide (ins.length<=6))=true:=by rw[hv,zdp (by omega)];rfl
 refine bI (λhs=>λ_ _=> ?_) λhs=>λ_ _=>kb ?_
 case refine_2=>
  have hs:=zdv hs;rw[aBF (by omega)] at J;cases J
 have hs:=zdu hs;have o0: ∃m y,goI aCo s (m,(([]:List RS).length:Int))=some y/\y.2=1:=by
  have hg:=aC6 (s:=s) (by omega);refine⟨0, ?_⟩;cases hq:goI aCo s (0,0) with
  |none=>rw[hq] at hg;rw[hg] at J;cases J
  |some y=>
   refine⟨y,rfl, ?_⟩;rw[hq] at hg;rw[hg] at J;have J:(aC5 y).2=0:=J;unfold aC5 at J;cases h1:y.2==1 with
   |true=>simpa using h1
   |false=>rw[h1] at J;cases J
 have step: ∀z:EX11,EI11 s ins z->z.2.1=false->z.1.size<=4096/\(∀x t,vC z.1.data.toList=some (x,t)->aIT D (EI11 s ins) ins z (azn d (K (cRE.enc (aFn,110)))) x ⟨t.toArray⟩)/\(vC z.1.data.toList=none->azn d (K (cRE.enc (aFn,110)))):=by
  rintro⟨q,e,st⟩ ⟨ver,go,en,n0,uz⟩ he;dsimp only at ver go en n0 uz he ⊢;obtain⟨m,y,N,i0⟩:=ver he;have go:=go he;refine⟨by omega,λx t H=> ?_,λH=>kb ?_⟩
  ·obtain⟨a0,hz,hp⟩:=azH H;have l0:=(pw H).2.2;rw[ayn,H] at N;dsimp only at N;rw[I3] at N;dsimp only at N;cases hd:aIB (st.length:Int) x with
   |false=>rw[hd] at N;cases N
   |true=>
    rw[hd,zdr] at N;dsimp only at N;rw[ayn,H] at go;dsimp only at go;refine aMq a0 hd (by dsimp only;omega) uz (by omega) (by dsimp only;omega) (λhn=>kb ?_) λu0 e0=> ?_
    ·have hn:exS ins st x=none:=hn;rw[hn] at go;exact go
    ·have e0:exS ins st x=some u0:=e0;rw[e0] at go;dsimp only at go;have g0:=aJX hd a0 e0;have hT:=aLz x.1.toNat;have hP:=azZ (i:=x.1.toNat) (by have:=a0.hi;have:=a0.lo;omega);have hu:=aK0 a0 hd hi uz e0;refine⟨λh9=> ?_,λh9=> ?_,λh9=> ?_, ?_,hu⟩
     ·dsimp only at h9 ⊢;rw[h9,zdq] at N;exact⟨_,y,by rw[g0];exact N,i0⟩
     ·dsimp only at h9 ⊢;rw[h9,zdq] at go;exact go
     ·dsimp only at h9 ⊢;have ht:=l0 (by simpa using h9);rw[h9,zdr] at N go;simp only[za1] at N;rw[<-N] at i0;refine⟨?_,go,by rw[ht]⟩;dsimp only at i0;omega
     ·dsimp only;unfold aIE at g0;omega
  ·rw[ayn,H] at go;exact go
 refine⟨(s,false, []),⟨λ_=>o0,λ_=>(aMp J j0 (by omega)).symm,λe=>(by cases e),(by show 0+s.size<=4096;omega),λv hv=>by cases hv⟩,⟨⟨rfl,rfl,rfl,rfl,trivial⟩,⟨⟨rfl,trivial⟩,trivial⟩,⟨rfl,trivial⟩,rfl,trivial⟩,λx H=>aKB x H, ?_, ?_, ?_, ?_, ?_, ?_, ?_, ?_, ?_, ?_, ?_,trivial⟩
 ·rintro x ⟨ver,go,en,n0,uz⟩;obtain⟨e1,e2,_⟩:=en rfl;have e1:x.2.2.length=1:=e1;refine aIO (by omega) (za0 _) (by omega) ?_;rw[aJf,za7];have:(eR.nth x.2.2 (x.2.2.length - 1),(0:Int))=exF s ins:=e2;rw[this];exact k
 ·intro x H;obtain⟨hz,h1,h2⟩:=step _ H rfl;have e:vC (c11 x 0).1.data.toList=aAS ((byX x 1).toNat*256+(byX x 2).toNat) (tlX x 3):=rfl;rw[e] at h1 h2;have hz:(tlX x 3).length+3<=4096:=by rw[<-bj] at hz;exact hz
  have rz:(⟨(tlX x 3).toArray⟩:zdG).size=(tlX x 3).length:=by rw[<-bj,eI]
  show U11 (U11 (aza ⟨(tlX x 3).toArray⟩ (((byX x 1).toNat*256+(byX x 2).toNat:Nat):Int) _ _));generalize (byX x 1).toNat*256+(byX x 2).toNat=m at*
  unfold aAS at h1 h2;refine λ_ _=>λ_ _=>vI (Int.natCast_nonneg _) (λh3=> ?_) λh3=>h2 ?_
  ·have et:(⟨(tlX x 3).toArray⟩:zdG).extract 0 ((m:Nat):Int).toNat=⟨((tlX x 3).take m).toArray⟩:=gT (by rw[ayS,eI,eI,zd2]);have er:((⟨(tlX x 3).toArray⟩:zdG).extract ((m:Nat):Int).toNat (⟨(tlX x 3).toArray⟩:zdG).size).data.toList=(tlX x 3).drop m:=by rw[ayT,eI,zd2]
   rw[et];have hc:decide (m<=(tlX x 3).length)=true:=zdp (by omega);rw[hc] at h1 h2;refine ac (zdp ?_) (bI (λh4=>λ_ _=> ?_) λh4=>λ_ _=>h2 ?_)
   ·rw[<-et,ByteArray.size_extract];omega
   ·rw[h4] at h1 h2;exact ayF (zat _) azF (by rw[er];exact h1) (by rw[er];exact h2)
   ·rw[h4];rfl
  ·have hc:decide (m<=(tlX x 3).length)=false:=zds (by omega);rw[hc];rfl
 ·intro x H;obtain⟨_,h1,h2⟩:=step _ H rfl;exact λ_ _=>λ_ _=>ayF (Int.zero_le_ofNat 1) tF h1 h2
 ·intro x H;obtain⟨_,h1,h2⟩:=step _ H rfl;exact λ_ _=>λ_ _=>ayF (Int.zero_le_ofNat 2) tF h1 h2
 ·intro x H;obtain⟨_,h1,h2⟩:=step _ H rfl;exact λ_ _=>ayF (Int.zero_le_ofNat 3) tF h1 h2
 ·intro x H;obtain⟨_,h1,h2⟩:=step _ H rfl;exact λ_ _=>ayF (Int.zero_le_ofNat 4) tF h1 h2
 ·intro x H;obtain⟨_,h1,h2⟩:=step _ H rfl;exact λ_ _=>ayF (Int.zero_le_ofNat 5) tF h1 h2
 ·intro x H;obtain⟨_,h1,h2⟩:=step _ H rfl;exact λ_ _=>ayF (Int.zero_le_ofNat 6) tF h1 h2
 ·intro x H;obtain⟨_,h1,h2⟩:=step _ H rfl;exact λ_ _=>ayF (Int.zero_le_ofNat 7) tF h1 h2
 ·intro x H;obtain⟨_,h1,h2⟩:=step _ H rfl;exact λ_ _=>ayF (Int.zero_le_ofNat 8) tF h1 h2
 ·intro x H;obtain⟨_,h1,h2⟩:=step _ H rfl;exact λ_ _=>ayF (Int.zero_le_ofNat 9) tF h1 h2
theorem aMP (d:Ad3) (I:EX11->Prop) (s:zdG) (ins:List RS) (K:zdR):ayw d aLX (aLY d) (aKZ 67 45 I) 12 18 [.val (.string s), .slc 0 0 ins.length] [eR.old ins] (Go.Sy.okK λr _ _ _=>K r)=aL0 ⟨144,112,111,158,168,170,172,149,70⟩ d I s ins K:=by kernel_rfl
theorem aLF:GPk aLX:=(aCq.cons (λd W H=>PR H.1.1) call60).cons (λd W H=>aC9 H) call17
def aK2:MCtr:=λbl _ args=>match args with
 | [.val (.string c),s]=>(match vW bl 2 s with
   |some (b,_,n,g)=>some {X:=Unit,pre:=b&&(Nat.ble n 1000000&&eR.good uzR n g),spec:=λ_=>True,out:=λ_=>cRE.enc (exF c (eR.list n g)),ex:=λ_=>⟨(),trivial⟩}
   |none=>none)
 |_=>none
theorem aK3:MPk d (aLY d):=((KE.cons λB hB=>aKY B hB).cons λB hB=>aLE hB).cons λB hB=>aKt B hB
theorem aK4 : ∀B:Base,GlobPB d B->VU prog B 18 aK2:=aEL aLF aK3 λbl nx args C J hp=>by
 unfold aK2 at J;split at J
 ·rename_i c s;split at J
  ·rename_i b o n g Y;simp only[za1] at J;subst J;simp only[za2] at hp;obtain⟨rfl,N,hg⟩:=hp;obtain⟨t1,t2⟩:=cq (E:=eR) (f:=rnF [o] [] nx) Y hg;have H: ∀C∈ [eR.old (eR.list n g)],cN C.kd=false:=by simp[cN,El.old]
   refine⟨[o], [eR.old (eR.list n g)], [.val (.string c), .slc 0 0 (eR.list n g).length],aKZ 67 45 (EI11 c (eR.list n g)),12,aw t1 trivial,bH H,cd (by simp[El.old,BK.map]),aIy rfl (aIy (t2 0 rfl) rfl), ?_⟩;refine azw (K:=Go.Sy.okK λr _ _ _=>r=cRE.enc (exF c (eR.list n g))) ?_ λr bl' q w h=> ?_
   ·rw[aMP];exact aK1 (K:=λr=>r=_) (El.good_list hg) (by rw[El.list_length];exact zak N) rfl
   ·cases r with
    |pan v=>exact h.elim
    |ok s=>
     obtain rfl:s=cRE.enc (exF c (eR.list n g)):=h;exact⟨(),trivial, [],⟨_,rfl,rfl⟩,zcA,trivial,we H rfl _⟩
  ·cases J
 ·cases J
structure CsR where
 un:Int×Int×Int
 ct:Int
 ce:Int×Int×Int
 re:Int×Int×Int
 k0:A6
 k1:A6
 k2:A6
 va:A6
 pa:Int×Int×Int
def i3L (a:Int×Int×Int):zdJ:= [.val (.int .i64 a.1), .val (.int .i64 a.2.1), .val (.int .i64 a.2.2)]
def csL (c:CsR) (x:SV):zdJ:=i3L c.un++(.val (.int .i64 c.ct)::x::(i3L c.ce++(i3L c.re++(a6L c.k0++(a6L c.k1++(a6L c.k2++(a6L c.va++i3L c.pa)))))))
def q4:List SV->Int×Int×Int×Int
 | [.val (.int .i64 a), .val (.int .i64 b), .val (.int .i64 c), .val (.int .i64 d)]=>(a,b,c,d)
 |_=>(0,0,0,0)
def eW4:El (Int×Int×Int×Int):={sz:=4,sv:=λx=> [.val (.int .i64 x.1), .val (.int .i64 x.2.1), .val (.int .i64 x.2.2.1), .val (.int .i64 x.2.2.2)],of:=q4,d:=(0,0,0,0),rt:=λ_=>rfl,ids:=λ_=>rfl,len:=λ_=>rfl,one:=by decide}
def gTg:List (FuncId×Ctr):=(7,k0 cB true)::(11,k3 cS cI cB8 cS (λs n _=>decide (s.size<=1000000)&&cl n) aA5)::(17,aEV)::(49,k2 cIv cI cR (λx k=>uzI x&&cl k) aLs)::qH
def aMQ:zdW:=(8,aKG)::(47,aMc)::(46,aMf)::(48,aMl)::(18,aK2):: []
def aMR (d:Ad3) (xs J:List (Int×Int)) (H:List (Int×Int×Int×Int)) (at' b:Int) (c:CsR) (K:zdR):Prop:=aLl d gTg aMQ (λ_ _=>none) 12 4 [.slc (14+1) 0 xs.length, .slc (14+2) 0 J.length,cI.enc at',cB8.enc b, .agg (csL c (.slc (14+3) 0 H.length))] [e2.old xs,e2.old J,eW4.old H] K
def drw (P:Prop):Prop:=P/\P
def tgR (H J:Int) (k:A6) (pa:Int) (va:A6) (K:RS->Prop):Prop:=drw (ah (cl H&&(cl J&&uA6 k)) (Unit->True->ah (aI7 (aIx k 6).length (eTm.get (aIx k 6))&&(aI7 (aID va 6).length (eTm.get (aID va 6))&&(uzR (aI4 H)&&uzR (aJd J)))) (∀x:Iv×Int,uzI x.1=true->ah (uzI x.1&&cl pa) (K (aLs x.1 pa)))))
def aJg (m n:Int) (H:zdG):Bool:=bif decide ((H.size:Int)<=4096) then decide (eS m (n+1)<=16) else false
def aK5 (fr:List RS) (one two H:zdG):Bool:=bif (bif (bif (bif (exF one fr).2 !=0 then true else(exF two fr).2 !=0) then true else(fZ (exF one fr).1 (exF two fr).1).2 !=0) then true else(ayE H).2 !=0) then true else(bif (exF H fr).2==0 then eqR (exF H fr).1 (fZ (exF one fr).1 (exF two fr).1).1 else false)
def aMs (f:RS):zdM:=λe=>((gA f).drop (e*2)).take 2
def g11 (a b c:RS):zdM:=ald (ald (λk=>aMs a (0+k)) (aMs b) 1 0) (aMs c) (1+1) 0
def aJ4 (g:zdM):Bool:=(Nat.ble 3 3&&Nat.beq 2 2&&true)&&(Nat.ble 3 1000000&&eR.good uzR 3 g)
def tgE (g:zdM) (one two H:zdG) (K:zdR):Prop:=ag (bif !(((ayE H).2==0)==aJg (ayE one).1 (ayE two).1 H) then true else bif aJg (ayE one).1 (ayE two).1 H then !((ayE H).1==eS (ayE one).1 ((ayE two).1+1)) else false) (K (cB.enc false))
 (ah (aJ4 g) (Unit->True->ah (aJ4 g) (Unit->True->ah (aJ4 g) (Unit->True->ah (uzR (exF one (eR.list 3 g)).1&&uzR (exF two (eR.list 3 g)).1) (K (cB.enc (aK5 (eR.list 3 g) one two H)))))))
def tgB (g:zdM) (one two H:zdG) (K:zdR):Prop:=ah (dC (decide ((H.size:Int)<=4096)) (inR .i64 ((ayE two).1+1))) (ah (dC (!(!(((ayE H).2==0)==aJg (ayE one).1 (ayE two).1 H))&&aJg (ayE one).1 (ayE two).1 H) (inR .i64 ((ayE two).1+1))) (tgE g one two H K))
def tgF (one two:zdG) (K:zdR) (g:zdM):Prop:=ag (bif (ayE two).2 !=0 then true else(two.size:Int)==0) (K (cB.enc false)) (ag ((ayE one).2 !=0) (K (cB.enc (bif (ayE one).2==110 then(ayE one).1==0 else false)))
 (ah (inR .i64 ((one.size:Int) - 1)) (ah (decide (0<=eS ((one.size:Int) - 1) 0)&&decide (eS ((one.size:Int) - 1) 0<=(one.size:Int))) (ah (inR .i64 ((two.size:Int) - 1)) (ah (decide (0<=(two.size:Int) - 1)&&decide ((two.size:Int) - 1<=(two.size:Int)))
   (fy (one.extract 0 (eS ((one.size:Int) - 1) 0).toNat) (two.extract 0 ((two.size:Int) - 1).toNat) (fy (one.extract 0 (eS ((one.size:Int) - 1) 0).toNat++two.extract 0 ((two.size:Int) - 1).toNat) ⟨#[4,9]⟩ (tgB g one two (one.extract 0 (eS ((one.size:Int) - 1) 0).toNat++two.extract 0 ((two.size:Int) - 1).toNat++⟨#[4,9]⟩) K))))))))
def tgG (c:CsR) (one two:zdG) (K:zdR):Prop:=ah (uA6 c.va) (Unit->True->tgR c.ce.1 c.re.1 c.k0 c.pa.1 c.va λf0=>tgR c.ce.2.1 c.re.2.1 c.k1 c.pa.2.1 c.va λf1=>tgR c.ce.2.2 c.re.2.2 c.k2 c.pa.2.2 c.va λf2=>tgF one two K (g11 f0 f1 f2))
def IM (n:Nat) (g:zdM):Bool:=(Nat.ble n n&&Nat.beq 2 2&&true)&&e2.good u2P n g
def tgT (xs H:List (Int×Int)) (at' b:Int) (c:CsR) (K:zdR):Prop:=
 ah (IM xs.length (e2.get xs)) (Unit->True->ah (decide ((mdF (e2.list xs.length (e2.get xs))).size<=1000000)&&cl at') (ah (IM H.length (e2.get H)) (Unit->True->tgG c (aA5 (mdF (e2.list xs.length (e2.get xs))) at' b) (mdF (e2.list H.length (e2.get H))) K)))
def aIF:InX:=(9,0,noR)
def aJz:InX:=(4,0,noR)
def aKh (l:List InX):Prop:= ∀x∈l,OkI x/\x.1≠9
theorem aJA: ∀{l:List InX},K9 l-> ∃J,l=J++ [aIF]/\aKh J
 | [],h=>h.elim
 |x::l,h=>by
  obtain⟨Y,h9,hr⟩:=h;by_cases e:l= []
  ·have N:=h9.2 e;refine⟨[], ?_,λy H=>by cases H⟩;rw[e];obtain⟨op,n,v⟩:=x;have N:op=9:=N;subst N;have hv:v=noR:=Y.vz (by show (9:Int)≠0;decide);have hn:n=0:=Y.nz3 (by show (3:Int)<=9;decide);rw[hv,hn];rfl
  ·obtain⟨J,e1,e2⟩:=aJA (hr e);refine⟨x::J,by rw[e1];rfl,λy H=> ?_⟩;rcases zai.1 H with rfl|H
   ·exact⟨Y,λq=>e (h9.1 q)⟩
   ·exact e2 y H
theorem aMt:OkI aIF:=⟨rfl,by decide,by decide,λe=>rfl,λ_=>rfl,λ_=>rfl⟩
theorem aK6:OkI aJz:=⟨rfl,by decide,by decide,λe=>rfl,λ_=>rfl,λ_=>rfl⟩
theorem aJY: ∀{l:List InX},aKh l->K9 (l++ [aIF])
 | [],_=>⟨aMt,⟨λ_=>rfl,λ_=>rfl⟩,λe=>absurd rfl e⟩
 |x::l,h=>⟨(h x (by simp)).1,⟨λe=>absurd e (h x (by simp)).2,λe=>by simp at e⟩,λ_=>aJY λy H=>h y (zan _ H)⟩
theorem aIV (l:List InX):(l++ [aIF]).flatMap cn=l.flatMap cn++ [9]:=by
 rw[zd4];rfl
def aJZ (s:zdG):zdG:=s.extract 0 (s.size - 1)
variable {s:zdG}
theorem aJi {l:List UInt8} (h:s.data.toList=l++ [9]):(aJZ s).data.toList=l:=by
 have H:s.size=l.length+1:=by rw[<-bj,h];simp
 unfold aJZ;rw[zdk,H];simp[h]
def aIG (one two:zdG):zdG:=aJZ one++aJZ two++⟨#[4,9]⟩
theorem aIW (h:(ayE s).2=0): ∃l,aIH s=some (l++ [aIF])/\aKh l/\s.data.toList=l.flatMap cn++ [9]/\l.foldlM aCo (0,0)=some ((ayE s).1,1)/\1<=(ayE s).1/\(ayE s).1<=16:=by
 unfold ayE at h ⊢;cases hp:aIH s with
 |none=>rw[hp] at h;cases h
 |some l=>
  rw[hp] at h;obtain⟨h1,h2,h3⟩:=ayB hp;obtain⟨l',rfl,hb⟩:=aJA h1;dsimp only at h ⊢;cases H:(l'++ [aIF]).foldlM aCo (0,0) with
  |none=>rw[H] at h;cases h
  |some z=>
   rw[H] at h;dsimp only at h ⊢;rw[List.foldlM_append] at H;cases hg:l'.foldlM aCo (0,0) with
   |none=>rw[hg] at H;cases H
   |some y=>
    obtain⟨m,d⟩:=y;rw[hg] at H;have H:(aCo (m,d) aIF).bind (λz=>some z)=some z:=H;obtain⟨i1,i2⟩:=aI9 hg (zat _);unfold aC5 at h ⊢;rw[I3] at H;have hz:z=(eS m (d+0),d+0)/\0<=d:=by
     cases N:aIB (m,d).2 aIF with
     |false=>rw[N] at H;cases H
     |true=>
      rw[N] at H;have h0:=(aIK N).1;have H:some (eS m (d+(0 - 0)),d+(0 - 0))=some z:=H;simp only[za1] at H;exact⟨by rw[<-H];simp,h0⟩
    obtain⟨rfl,a0⟩:=hz;have em:eS m (d+0)=m:=by unfold eS;rw[if_neg (by omega)]
    rw[em,Int.add_zero] at h ⊢;dsimp only at h ⊢;cases J:(bif d==1 then decide (m<=16) else false) with
    |false=>rw[J] at h;cases h
    |true=>
     have Y:d=1:=by
      cases h1:d==1 with
      |true=>simpa using h1
      |false=>rw[h1] at J;cases J
     subst Y;have hm:m<=16:=by simpa using J
     refine⟨l',rfl,hb,by rw[h2,aIV],hg,i1,hm⟩
variable {l:List InX} {m:Int}
theorem aK7 {d:Int} (Y:aKh l) (hs:(l.flatMap cn).length+1<=4096) (N:l.foldlM aCo (0,0)=some (m,d)):ayE ⟨(l.flatMap cn++ [9]).toArray⟩=aC5 (m,d):=by
 have hp:aIH ⟨(l.flatMap cn++ [9]).toArray⟩=some (l++ [aIF]):=by
  rw[<-aIV];exact aBb (aJY Y) (by rw[aIV,za3];exact hs)
 obtain⟨i1,i2⟩:=aI9 N (zat _);unfold ayE;rw[hp];dsimp only;rw[List.foldlM_append,N];have hz: ∀d:Int,aC5 (eS m (d+0),d+0)=aC5 (eS m d,d):=λd=>by rw[Int.add_zero]
 cases H:aIB d aIF with
 |true=>
  have J:aCo (m,d) aIF=some (eS m (d+0),d+0):=by
   rw[I3];dsimp only;rw[H];rfl
  show (match (aCo (m,d) aIF).bind (λz=>some z) with
  |none=>((0:Int),(110:Int))
  |some z=>aC5 z)=_
  rw[J];show aC5 (eS m (d+0),d+0)=_;rw[Int.add_zero,show eS m d=m by unfold eS;rw[if_neg (by omega)]]
 |false=>
  have J:aCo (m,d) aIF=none:=by
   rw[I3];dsimp only;rw[H];rfl
  show (match (aCo (m,d) aIF).bind (λz=>some z) with
  |none=>((0:Int),(110:Int))
  |some z=>aC5 z)=_
  rw[J];have hd:d<0:=by
   have hd: ¬(0<=d):=λq=>by
    rw[aI8 (d:=d) (x:=aIF) q (λe=>by cases e)] at H;cases H
   omega
  show _=aC5 (m,d);unfold aC5;rw[show (d==1)=false by rw[zdw];omega];rfl
variable {one two:zdG} {l1 l2:List InX}
theorem aJR (h1:one.data.toList=l1.flatMap cn++ [9]) (h2:two.data.toList=l2.flatMap cn++ [9]):aIG one two=⟨((l1++l2++ [aJz]).flatMap cn++ [9]).toArray⟩:=by
 apply gT;unfold aIG;rw[eI,eD,eD,aJi h1,aJi h2,zd4,zd4];show _++ [4,9]=_++_++ [4]++ [9];simp
theorem aJ5 (h1:aKh l1) (h2:aKh l2):aKh (l1++l2++ [aJz]):=λx H=>by
 rcases za8.1 H with H|H
 ·rcases za8.1 H with H|H
  ·exact h1 x H
  ·exact h2 x H
 ·rw[zaj] at H;subst H;exact⟨aK6,by decide⟩
theorem aK8 {n:Int} (h1:l1.foldlM aCo (0,0)=some (m,1)) (h2:l2.foldlM aCo (0,0)=some (n,1)):(l1++l2++ [aJz]).foldlM aCo (0,0)=some (eS m (n+1),1):=by
 obtain⟨i1,J⟩:=aI9 h1 (zat _);obtain⟨N,Y⟩:=aI9 h2 (zat _);have H:=aJQ (M:=m) (k:=1) h2 (by decide) (zat _);rw[show eS m (0+1)=m by unfold eS;rw[if_neg (by omega)],show (0:Int)+1=1 from rfl] at H;rw[List.foldlM_append,List.foldlM_append,h1];show ((l2.foldlM aCo (m,1)).bind λz=>(aCo z aJz).bind λz=>some z)=_;rw[H];show (aCo (eS m (n+1),2) aJz).bind (λz=>some z)=_;rw[I3];show some (eS (eS m (n+1)) (2+(1 - 2)),2+(1 - 2))=_;have:eS (eS m (n+1)) (2+(1 - 2))=eS m (n+1):=by
  unfold eS
  repeat' split
  all_goals omega
 rw[this];rfl
theorem aLG (h1:(ayE one).2=0) (h2:(ayE two).2=0):ayE (aIG one two)=bif decide ((aIG one two).size<=4096)&&decide (eS (ayE one).1 ((ayE two).1+1)<=16) then(eS (ayE one).1 ((ayE two).1+1),0) else(0,110):=by
 obtain⟨l1,p1,Y,c1,f1,_,_⟩:=aIW h1;obtain⟨l2,p2,b2,c2,f2,_,_⟩:=aIW h2;have N:=aJR c1 c2;by_cases H:(aIG one two).size<=4096
 ·rw[zdp H,zb6];have J:((l1++l2++ [aJz]).flatMap cn).length+1<=4096:=by
   rw[N,<-bj,eI,za3] at H;exact H
  rw[N,aK7 (aJ5 Y b2) J (aK8 f1 f2)];rfl
 ·rw[zds H,Bool.false_and,zdq];exact aBF H
variable {ins:List RS}
theorem aK9 (J:(ayE s).2=0) (hp:aIH s=some (l++ [aIF])) (h:(exF s ins).2=0): ∃st,l.foldlM (exS ins) []=some st/\exF s ins=(I2 st,0)/\(ins.all rV&&decide (ins.length<=6))=true:=by
 unfold exF at h ⊢;rw[J] at h ⊢;cases hi:(ins.all rV&&decide (ins.length<=6)) with
 |false=>rw[hi] at h;cases h
 |true=>
  rw[hi,hp] at h;rw[hp];have h:(exL ins (l++ [aIF])).2=0:=h;show ∃st,_/\exL ins (l++ [aIF])=_/\_;unfold exL at h ⊢;rw[List.foldlM_append] at h ⊢;cases H:l.foldlM (exS ins) [] with
  |none=>rw[H] at h;cases h
  |some st=>exact⟨st,rfl,rfl,rfl⟩
theorem aMu (h1:(ayE one).2=0) (h2:(ayE two).2=0) (hb:(ayE (aIG one two)).2=0) (x1:(exF one ins).2=0) (x2:(exF two ins).2=0) (Y:(fZ (exF one ins).1 (exF two ins).1).2=0):exF (aIG one two) ins=((fZ (exF one ins).1 (exF two ins).1).1,0):=by
 obtain⟨l1,p1,b1,c1,f1,_,_⟩:=aIW h1;obtain⟨N,p2,b2,c2,f2,_,_⟩:=aIW h2;obtain⟨lb,pb,_,cb,_,_,_⟩:=aIW hb;obtain⟨s1,e1,r1,hi⟩:=aK9 h1 p1 x1;obtain⟨s2,e2,r2,_⟩:=aK9 h2 p2 x2;have hl:=aJR c1 c2;have hz:=(ayB pb).2.2;have g0:((l1++N++ [aJz]).flatMap cn).length+1<=4096:=by
  rw[hl,<-bj,eI,za3] at hz;exact hz
 have hp:aIH (aIG one two)=some ((l1++N++ [aJz])++ [aIF]):=by
  rw[hl,<-aIV];exact aBb (aJY (aJ5 b1 b2)) (by rw[aIV,za3];exact g0)
 obtain⟨_,n1⟩:=aKe (b:= []) f1 (λx hx=>(b1 x hx).1) (st:= []) rfl e1;obtain⟨J,n2⟩:=aKe (b:=s1) f2 (λx hx=>(b2 x hx).1) (st:= []) rfl e2;rw[zbf] at J;have a0:s1.length=1:=by omega
 have e0:s2.length=1:=by omega
 match s1,a0 with
 | [u],_=>
 match s2,e0 with
 | [v],_=>
 have i0:exF one ins=(u,0):=r1;have j0:exF two ins=(v,0):=r2;rw[i0,j0] at Y ⊢;dsimp only at Y ⊢;have H:(l1++N++ [aJz]++ [aIF]).foldlM (exS ins) []=some [(fZ u v).1]:=by
  rw[List.foldlM_append,List.foldlM_append,List.foldlM_append,e1];show (((N.foldlM (exS ins) [u]).bind λz=>(exS ins z aJz).bind λz=>some z)).bind (λz=>(exS ins z aIF).bind λz=>some z)=_;rw[J];show ((aIA [u,v] (fZ u v)).bind λz=>some z).bind (λz=>(exS ins z aIF).bind λz=>some z)=_;unfold aIA;rw[beq_iff_eq.2 Y];rfl
 unfold exF;rw[hb,hi,hp];show exL ins _=_;unfold exL;rw[H];rfl
theorem aLa: ∀{l:List (Int×Int)} {m d:Int},0<=d->d<=m->m<=16-> ∃m',(mdL l d).1.foldlM aCo (m,d)=some (m',(mdL l d).2)/\(mdL l d).2<=m'/\m'<=16
 | [],m,d,h0,h1,h2=>⟨m,rfl,h1,h2⟩
 |p::l,m,d,h0,h1,h2=>by
  have ok:=aCn ⟨h0,by omega⟩ p;have e:d+aIE (mdX d p)=mdD d (mdX d p):=by unfold aIE mdD;omega
  have lo:=ok.lo;have hi:=ok.hi;obtain⟨m',H,J,N⟩:=aLa (l:=l) (m:=eS m (mdD d (mdX d p))) (d:=mdD d (mdX d p)) lo (by unfold eS;split<;>omega) (by unfold eS;split<;>omega);refine⟨m', ?_,J,N⟩;show (aCo (m,d) (mdX d p)).bind (λz=>(mdL l (mdD d (mdX d p))).1.foldlM aCo z)=_;rw[I3];dsimp only;rw[aI8 ok.tk ok.dup,e];exact H
theorem aJ6: ∀{n:Nat} {m:Int},(n:Int)+1<=m->(aAX n).foldlM aCo (m,(n:Int)+1)=some (m,1)
 |0,m,_=>rfl
 |n+1,m,h=>by
  show (aCo (m,((n+1:Nat):Int)+1) (4,0,noR)).bind (λz=>(aAX n).foldlM aCo z)=_;rw[I3];dsimp only;rw[aI8 (d:=((n+1:Nat):Int)+1) (x:=(4,0,noR)) (by show (2:Int)<=_;omega) (λe=>by cases e),zdr];have e:((n+1:Nat):Int)+1+aIE (4,0,noR)=(n:Int)+1:=by
   show ((n+1:Nat):Int)+1+(1 - 2)=_;omega
  rw[e,show eS m ((n:Int)+1)=m by unfold eS;rw[if_neg (by omega)]];exact aJ6 (by omega)
theorem aLb (xs:List (Int×Int)):(ayE (mdF xs)).2=0/\0<(mdF xs).size:=by
 obtain⟨hp,hs⟩:=aAY xs;obtain⟨m,q1,q2,q3⟩:=aLa (l:=xs.take 30) (m:=0) (d:=0) (zat _) (zat _) (by decide);obtain⟨_,h2,h3,_⟩:=aFx (l:=xs.take 30) (d:=0) ⟨by decide,by decide⟩;have N:0<(mdF xs).size:=by
  unfold mdF;rw[<-bj,eI];cases ha:mdA xs with
  |nil=>rw[ha] at hp;exact hp.elim
  |cons x l=>
   have:=pr x;rw[List.flatMap_cons,za3];omega
 refine⟨?_,N⟩;have Y:aIH (mdF xs)=some (mdA xs):=aBb hp (by omega);have J: ∃m':Int,m'<=16/\1<=m'/\(mdA xs).foldlM aCo (0,0)=some (m',1):=by
  unfold mdA;rw[List.foldlM_append,q1];show ∃m':Int,m'<=16/\1<=m'/\(aCl (mdL (xs.take 30) 0).2).foldlM aCo (m,(mdL (xs.take 30) 0).2)=some (m',1);generalize (mdL (xs.take 30) 0).2=d at*
  unfold aCl;have H: ∀{m:Int},1<=m->aCo (m,1) (9,0,noR)=some (m,1):=λ{m} h=>by
   rw[I3];show some (eS m (1+(0 - 0)),1+(0 - 0))=_;rw[show eS m (1+(0 - 0))=m by unfold eS;rw[if_neg (by omega)]];rfl
  by_cases h0:d=0
  ·subst h0;refine⟨eS m 1,by unfold eS;split<;>omega,by unfold eS;split<;>omega, ?_⟩;show (aCo (m,0) (1,0,noR)).bind (λz=>(aCo z (9,0,noR)).bind λz=>some z)=_;have e1:aCo (m,0) (1,0,noR)=some (eS m 1,1):=rfl;rw[e1];show (aCo (eS m 1,1) (9,0,noR)).bind (λz=>some z)=_;rw[H (by unfold eS;split<;>omega)];rfl
  ·rw[beq_eq_false_iff_ne.2 h0,zdq,List.foldlM_append];have ha:=aJ6 (n:=(d - 1).toNat) (m:=m) (by omega);rw[show (((d - 1).toNat:Nat):Int)+1=d by omega] at ha;rw[ha];refine⟨m,q3,by omega, ?_⟩;show (aCo (m,1) (9,0,noR)).bind (λz=>some z)=_;rw[H (by omega)];rfl
 obtain⟨m',k1,k2,k3⟩:=J;unfold ayE;rw[Y];dsimp only;rw[k3];show (aC5 (m',1)).2=0;unfold aC5;dsimp only;rw[zdp k1];rfl
theorem aL1: ∀{l:List InX} {ins st st':List RS} {m d m' d':Int},l.foldlM aCo (m,d)=some (m',d')->(∀x∈l,OkI x)->(st.length:Int)=d->(∀v∈ins,uzR v=true)->(∀v∈st,uzR v=true)->l.foldlM (exS ins) st=some st'->(st'.length:Int)=d'/\ ∀v∈st',uzR v=true
 | [],ins,st,st',m,d,m',d',H,_,hd,_,hs,J=>by
   have H:some (m,d)=some (m',d'):=H;have J:some st=some st':=J;simp only[za1,zag] at H J;obtain⟨rfl,rfl⟩:=H;subst J;exact⟨hd,hs⟩
 |x::l,ins,st,st',m,d,m',d',H,Y,hd,hi,hs,J=>by
  have H:(aCo (m,d) x).bind (λz=>l.foldlM aCo z)=some (m',d'):=H;have J:(exS ins st x).bind (λz=>l.foldlM (exS ins) z)=some st':=J;rw[I3] at H;dsimp only at H;cases N:aIB d x with
  |false=>rw[N] at H;cases H
  |true=>
   rw[N,zdr] at H;have H:l.foldlM aCo (eS m (d+aIE x),d+aIE x)=some (m',d'):=H;have hx:=Y x (by simp);rw[<-hd] at N;cases hq:exS ins st x with
   |none=>rw[hq] at J;cases J
   |some a0=>
    rw[hq] at J;have J:l.foldlM (exS ins) a0=some st':=J;have hl:=aJX N hx hq;exact aL1 H (λy hy=>Y y (zan _ hy)) (by omega) hi (aK0 hx N hi hs hq) J
variable {s:zdG}
theorem aLc {ins:List RS} (H:(ayE s).2=0) (hi: ∀v∈ins,uzR v=true):uzR (exF s ins).1=true:=by
 by_cases h0:(exF s ins).2=0
 ·obtain⟨l,hp,J,_,Y,_⟩:=aIW H;obtain⟨st,h1,h2,_⟩:=aK9 H hp h0;obtain⟨h3,h4⟩:=aL1 Y (λx hx=>(J x hx).1) rfl hi (λv H=>by cases H) h1;rw[h2];exact h4 _ (bw (d:=noR) (by omega))
 ·have:exF s ins=(noR,110):=by
   unfold exF at h0 ⊢;cases N:((ayE s).2==0&&(ins.all rV&&decide (ins.length<=6))) with
   |false=>rfl
   |true=>
    rw[N,zdr] at h0;rw[zdr];cases hp:aIH s with
    |none=>rfl
    |some l=>
     rw[hp] at h0;dsimp only at h0;show exL ins l=_;unfold exL at h0 ⊢;cases hq:l.foldlM (exS ins) [] with
     |none=>rfl
     |some st=>rw[hq] at h0;exact absurd rfl h0
  rw[this];exact tF
theorem aLd (h:(ayE s).2≠0):ayE s=(0,110):=by
 by_cases H:s.size<=4096
 ·rw[aC6 H] at h ⊢;cases hg:goI aCo s (0,0) with
  |none=>rfl
  |some y=>
   rw[hg] at h;have h:(aC5 y).2≠0:=h;show aC5 y=_;unfold aC5 at h ⊢;cases h1:(bif y.2==1 then decide (y.1<=16) else false) with
   |false=>rfl
   |true=>rw[h1] at h;exact absurd rfl h
 ·exact aBF H
theorem aLH {m n:Int} :aJg m n s=(decide (s.size<=4096)&&decide (eS m (n+1)<=16)):=by
 unfold aJg;by_cases h:s.size<=4096
 ·rw[zdp h,zdp (show (s.size:Int)<=4096 by omega)];rfl
 ·rw[zds h,zds (show ¬(s.size:Int)<=4096 by omega)];rfl
variable {a b c:RS}
theorem aLe:eR.list 3 (g11 a b c)= [a,b,c]:=rfl
theorem aJB (H:uzR a=true) (J:uzR b=true) (N:uzR c=true):aJ4 (g11 a b c)=true:=by
 unfold aJ4
 rw[show eR.good uzR 3 (g11 a b c)=true from El.good_iff.2 λe Y=>by
  have:e=0\/e=1\/e=2:=by omega
  rcases this with rfl|rfl|rfl
  ·exact⟨rfl,H⟩
  ·exact⟨rfl,J⟩
  ·exact⟨rfl,N⟩]
 rfl
variable {one two:zdG}
theorem aLf {fr:List RS} (h1:(ayE one).2=0) (h2:(ayE two).2=0):aK5 fr one two (aIG one two)=true:=by
 unfold aK5;by_cases N:(exF one fr).2=0
 ·by_cases Y:(exF two fr).2=0
  ·by_cases H:(fZ (exF one fr).1 (exF two fr).1).2=0
   ·by_cases J:(ayE (aIG one two)).2=0
    ·have:=aMu h1 h2 J N Y H;rw[this];dsimp only;unfold eqR;rw[ayr,ayr];cases (bif (bif (bif (exF one fr).2 !=0 then true else(exF two fr).2 !=0) then true else(fZ (exF one fr).1 (exF two fr).1).2 !=0) then true else(ayE (aIG one two)).2 !=0)<;>rfl
    ·rw[show ((ayE (aIG one two)).2 !=0)=true from bne_iff_ne.2 J];simp
   ·rw[show ((fZ (exF one fr).1 (exF two fr).1).2 !=0)=true from bne_iff_ne.2 H];simp
  ·rw[show ((exF two fr).2 !=0)=true from bne_iff_ne.2 Y];simp
 ·rw[show ((exF one fr).2 !=0)=true from bne_iff_ne.2 N];simp
variable {K:zdR}
theorem aMv (h2:(ayE two).2=0) (z1:one.size<=100000) (z2:two.size<=100000) (J:uzR a=true) (N:uzR b=true) (Y:uzR c=true) (k:K (cB.enc true)):tgF one two K (g11 a b c):=by
 obtain⟨l2,_,_,a0,_,j0,g0⟩:=aIW h2;have s2:1<=two.size:=by rw[<-bj,a0,za3,za6];omega
 refine bI (λhq=> ?_) λ_=>bI (λhq=> ?_) λhq=> ?_
 ·rw[h2] at hq;have:((two.size:Int)==0)=false:=by rw[zdw];omega
  rw[this] at hq;cases hq
 ·rw[aLd (bne_iff_ne.1 hq)];exact k
 ·have h1:(ayE one).2=0:=by simpa using hq
  obtain⟨l1,_,_,e1,_,i0,e0⟩:=aIW h1;have s1:1<=one.size:=by rw[<-bj,e1,za3,za6];omega
  have m0:eS ((one.size:Int) - 1) 0=(one.size:Int) - 1:=by unfold eS;rw[if_neg (by omega)]
  rw[m0];have a1:((one.size:Int) - 1).toNat=one.size - 1:=by omega
  have a2:((two.size:Int) - 1).toNat=two.size - 1:=by omega
  rw[a1,a2];have y1:(one.extract 0 (one.size - 1)).size<=one.size:=by rw[ByteArray.size_extract];omega
  have y2:(two.extract 0 (two.size - 1)).size<=two.size:=by rw[ByteArray.size_extract];omega
  refine ac (ej (by omega) (by omega)) (ac (by rw[zdp (by omega),zdp (by omega)];rfl) (ac (ej (by omega) (by omega)) (ac (by rw[zdp (by omega),zdp (by omega)];rfl) (ac (zdp (by omega)) (ac (zdp ?_) ?_)))))
  ·rw[ByteArray.size_append];have:(⟨#[4,9]⟩:zdG).size=2:=rfl;omega
  ·show tgB (g11 a b c) one two (aIG one two) K;refine ac (Q5 λ_=>ej (by omega) (by omega)) (ac (Q5 λ_=>ej (by omega) (by omega)) (bI (λhq=> ?_) λ_=>ac (aJB J N Y) λ_ _=>ac (aJB J N Y) λ_ _=>ac (aJB J N Y) λ_ _=>ac ?_ ?_))
   ·exfalso;rw[aLH,aLG h1 h2] at hq;cases hf:(decide ((aIG one two).size<=4096)&&decide (eS (ayE one).1 ((ayE two).1+1)<=16)) with
    |false=>rw[hf] at hq;cases hq
    |true=>
     rw[hf] at hq;simp at hq
   ·have H: ∀v∈ [a,b,c],uzR v=true:=λv hv=>by
     simp only[zai,zbw,or_false] at hv;rcases hv with rfl|rfl|rfl
     ·exact J
     ·exact N
     ·exact Y
    rw[aLe,aLc h1 H,aLc h2 H];rfl
   ·rw[aLf h1 h2];exact k
theorem aKi {cc rc:Int} {k:A6} {pa:Int} {va:A6} {K:RS->Prop} (h1:cl cc=true) (h2:cl rc=true) (h3:uA6 k=true) (h4:cl pa=true) (J: ∀f,uzR f=true->K f):tgR cc rc k pa va K:=by
 have N:=aJr k 6;have Y:=aJs va 6;have:ah (cl cc&&(cl rc&&uA6 k)) (Unit->True->ah (aI7 (aIx k 6).length (eTm.get (aIx k 6))&&(aI7 (aID va 6).length (eTm.get (aID va 6))&&(uzR (aI4 cc)&&uzR (aJd rc)))) (∀x:Iv×Int,uzI x.1=true->ah (uzI x.1&&cl pa) (K (aLs x.1 pa)))):=
  ac (by rw[h1,h2,h3];rfl) λ_ _=>ac (by
   rw[aIQ (aJT k 6 (by decide)) (by omega),aIQ (aKo va 6 (by decide)) (by omega)];unfold aI4 aJd
   rw[alg,alg];rfl) λx H=>ac (by rw[H,h4];rfl) (J _ (Lq _ _))
 exact⟨this,this⟩
def uI3 (a:Int×Int×Int):Bool:=cl a.1&&(cl a.2.1&&cl a.2.2)
def uCs (c:CsR):Bool:=uI3 c.ce&&(uI3 c.re&&(uI3 c.pa&&(uA6 c.k0&&(uA6 c.k1&&(uA6 c.k2&&uA6 c.va)))))
theorem aMw {c:CsR} (H:uCs c=true) (h2:(ayE two).2=0) (z1:one.size<=100000) (z2:two.size<=100000) (k:K (cB.enc true)):tgG c one two K:=by
 unfold uCs uI3 at H;simp only[za2] at H;obtain⟨⟨N,Y,J⟩,⟨r0,r1,r2⟩,⟨p0,p1,p2⟩,k0,k1,k2,hv⟩:=H;exact ac hv λ_ _=>aKi N r0 k0 p0 λa ha=>aKi Y r1 k1 p1 λb hb=>aKi J r2 k2 p2 λc H=>aMv h2 z1 z2 ha hb H k
theorem LW {l:List (Int×Int)} (h: ∀p∈l,(cl p.1&&cl p.2)=true):IM l.length (e2.get l)=true:=by
 unfold IM;rw[zae (za0 _),show e2.good u2P l.length (e2.get l)=true from El.good_get h];rfl
theorem aMx {xs ys:List (Int×Int)} {at' b:Int} {c:CsR} (N: ∀p∈xs,(cl p.1&&cl p.2)=true) (Y: ∀p∈ys,(cl p.1&&cl p.2)=true) (H:cl at'=true) (J:uCs c=true) (k:K (cB.enc true)):tgT xs ys at' b c K:=by
 have z1:=aAI xs;have z2:=aAI ys;have z3:=aAG (mdF xs) at' b;unfold tgT;rw[El.list_get,El.list_get];exact ac (LW N) λ_ _=>ac (by rw[zdp (by omega),H];rfl) (ac (LW Y) λ_ _=>aMw J (aLb ys).1 (by omega) (by omega) k)
theorem aMS (d:Ad3) (xs H:List (Int×Int)) (J:List (Int×Int×Int×Int)) (at' b:Int) (c:CsR) (K:zdR):aMR d xs H J at' b c K=tgT xs H at' b c K:=by kernel_rfl
def uKn:Nat->Prop->Prop
 |0,K=>K
 |n+1,K=>U11 (uKn n K)
theorem aFu: ∀{n:Nat} {K:Prop},K->uKn n K
 |0,_,h=>h
 |_+1,_,h=>λ_ _=>aFu h
def pshL:zdG:=⟨#[112,117,115,104,32,49,47,50,10,101,110,100,10]⟩
def QI:zdG:=⟨#[105,110,112,117,116,32,48,10,105,110,112,117,116,32,49,10,105,110,118,10,109,117,108,10,101,110,100,10]⟩
def aFO:zdG:=⟨#[1,0,1,1,7,6,9]⟩
def aNb:Ctr:=k1 cS (cP cS cI) (λs=>seq s aFO) λ_=>(QI,0)
def aNc:Ctr:=k1 cS (cP3 cS cI cI) (λs=>seq s pshL) λ_=>(⟨#[0,0,3,49,47,50,9]⟩,0,0)
def aFK:List (FuncId×Ctr):=(17,aEV)::(12,aNb)::(14,aNc)::(60,k2 cI cI cRE (λa b=>cl a&&cl b) rMk)::(43,k1 cIn cS uo coV)::(26,k1 cI cU cl BL)::gLn
def sv0:SV:= .val (.string ⟨#[48]⟩)
def sv1:SV:= .val (.string ⟨#[49]⟩)
def aGC:SV:= .val (.string ⟨#[49,48]⟩)
def aF4 (j:Nat):SV:= .agg [aGC,sv1, .slc j 0 1,sv0,sv1]
def aFL:Blk:={n:=1,sz:=3,get:=λ_=> [.val (.int .i64 1),sv1,sv1],kd:= .old}
def aGi:SV->Bool
 | .val (.string a)=>seq a ⟨#[49,48]⟩
 |_=>false
def aFN:SV->Bool
 | .val (.string a)=>seq a ⟨#[49]⟩
 |_=>false
def aFR:SV->Bool
 | .val (.string a)=>seq a ⟨#[48]⟩
 |_=>false
def aGj (j:Nat):List SV->Bool
 | [.agg [a,b, .slc i 0 1,c,e], .agg [H,J, .slc i' 0 1,N,Y]]=>Nat.beq i j&&(Nat.beq i' j&&(aGi a&&(aFN b&&(aFR c&&(aFN e&&(aGi H&&(aFN J&&(aFR N&&aFN Y))))))))
 |_=>false
def aF9:SV:= .agg [sv0,sv1, .val (.slice none 0 0),sv0,sv1]
def aFS:SV:= .tup [aF9, .val (.int .i64 0)]
def aGD:MCtr:=λbl nx args=>match args with
 | [.agg [_,_, .slc j _ _,_,_],_]=>aiq [j] [aFL] (aGj j) (λ_=>(aFS, [], [])) bl nx args
 |_=>none
theorem aGE (d:Ad3) (Q:zdR):ayw d aFK (azT d) (λ_ _=>none) 12 96 [aF4 0,aF4 0] [aFL] (Go.Sy.okK λr _ _ _=>Q r)=uKn 12 (Q aFS):=by kernel_rfl
def aF0:zdV:=aES 61 (aES 151 λ_ _=>none)
def r31:RS:=(⟨#[51]⟩,⟨#[49]⟩)
def r41:RS:=(⟨#[52]⟩,⟨#[49]⟩)
def r01:RS:=(⟨#[48]⟩,⟨#[49]⟩)
def exR:SV:= .tup [.agg [.val (.string ⟨#[51]⟩), .val (.string ⟨#[52]⟩)], .val (.int .i64 0)]
def exB:SV:= .tup [.agg [.val (.string ⟨#[]⟩), .val (.string ⟨#[]⟩)], .val (.int .i64 110)]
theorem aGF (d:Ad3) (Q:zdR):ayw d aFK (azT d) aF0 12 18 [.val (.string ⟨#[1,0,1,1,7,6,9]⟩), .slc 0 0 2] [eR.old [r31,r41]] (Go.Sy.okK λr _ _ _=>Q r)=uKn 22 (Q exR):=by kernel_rfl
theorem aGG (d:Ad3) (Q:zdR):ayw d aFK (azT d) aF0 12 18 [.val (.string ⟨#[1,0,1,1,7,6,9]⟩), .slc 0 0 2] [eR.old [r31,r01]] (Go.Sy.okK λr _ _ _=>Q r)=uKn 16 (azn d (Q exB)):=by kernel_rfl
def aGy:zdV:=aES 92 (aES 183 λ_ _=>none)
def aGO (d:Ad3):zdW:=(96,aGD)::azT d
def aGa (j:Nat):Blk:={n:=1,sz:=5,get:=λ_=> [aGC,sv1, .slc j 0 1,sv0,sv1],kd:= .old}
theorem aGP (d:Ad3) (Q:zdR):ayw d aFK (aGO d) aGy 12 25 [.val (.string ⟨#[1,0,2,0,5,9]⟩), .slc 0 0 1, .val (.int .i64 3)] [aGa 1,aFL] (Go.Sy.okK λr _ _ _=>Q r)=uKn 13 (ah (aeT (λ_=>some aFL) [1] [aFL]) (U11 (uKn 4 (Q aFS)))):=by kernel_rfl
def KS:SV->SV->Bool
 | .val (.int .i64 a), .val (.int .i64 b)=>a==b
 | .val (.string a), .val (.string b)=>seq a b
 |_,_=>false
def o7:List SV->List SV->Bool
 | [], []=>true
 |a::l,b::m=>KS a b&&o7 l m
 |_,_=>false
variable {a:SV}
theorem o8 {b:SV} (h:KS a b=true):a=b:=by
 unfold KS at h;split at h
 ·rw[eq_of_beq h]
 ·rw[We.1 h]
 ·cases h
theorem ni: ∀{l m:zdJ},o7 l m=true->l=m
 | [], [],_=>rfl
 | [],_::_,h=>by cases h
 |_::_, [],h=>by cases h
 |a::l,b::m,h=>by
  have h:(KS a b&&o7 l m)=true:=h;rw[za2] at h;rw[o8 h.1,ni h.2]
def aM7:SV->Bool
 | .val (.slice none 0 0)=>true
 |_=>false
theorem KU (h:aM7 a=true):a= .val (.slice none 0 0):=by
 unfold aM7 at h;split at h
 ·rfl
 ·cases h
theorem aM8 (d:Ad3) (K:zdR):my d gPn (azT d) (λ_ _=>none) 12 12 [.val (.string aFO)] K=uKn 14 (K ((cP cS cI).enc (QI,0))):=by kernel_rfl
theorem aM9 (d:Ad3) (K:zdR):my d gPa (aEf d) (λ_ _=>none) 12 14 [.val (.string pshL)] K=uKn 2 (ah (aEg ⟨#[112,117,115,104]⟩) (uKn 4 (ah (aEg ⟨#[101,110,100]⟩) (uKn 2 (K ((cP3 cS cI cI).enc (⟨#[0,0,3,49,47,50,9]⟩,0,0))))))):=by kernel_rfl
variable {d:Ad3} {W:World}
theorem QX (H:GlobP d W):CtrOK prog W 12 aNb:=dD λs h=>by
 rw[We.1 h]
 exact gn aDA KE H (ann:=λ_ _=>none) (n:=12) m8 ((cP cS cI).ids _) (by
  show my d gPn (azT d) (λ_ _=>none) 12 12 [.val (.string aFO)] _;rw[aM8]
  exact aFu rfl)
theorem aM0 (H:GlobP d W):CtrOK prog W 14 aNc:=dD λs h=>by
 rw[We.1 h]
 exact gn aE2 aDh H (ann:=λ_ _=>none) (n:=12) m8 ((cP3 cS cI cI).ids _) (by
  show my d gPa (aEf d) (λ_ _=>none) 12 14 [.val (.string pshL)] _;rw[aM9]
  exact aFu (ac (aDg _) (aFu (ac (aDg _) (aFu rfl)))))
def ndI:Nd:={op:=2,v:=aFn,u:=noU,n:=0,l:=0,r:=0}
def aM1 (i j:Nat):List SV->Bool
 | [.agg (x:: .slc H 0 1:: .slc J 0 1::r)]=>KS x (.val (.int .i64 1))&&(Nat.beq H i&&(Nat.beq J j&&o7 r (ci (BL 0))))
 |_=>false
variable {i j:Nat} {l:zdJ}
theorem aM2 (H:aM1 i j l=true):SV.rns (ab2 [i,j]) [svP 1 [BL 0] [ndI] (BL 0)]=some l:=by
 unfold aM1 at H;split at H
 ·simp only[za2] at H;obtain⟨h1,h2,h3,h4⟩:=H;rw[o8 h1,zab h2,zab h3,ni h4];rfl
 ·cases H
def aM3:List SV->Bool
 | [.agg (x::y::z::r)]=>KS x (.val (.int .i64 0))&&(aM7 y&&(aM7 z&&o7 r (ci noU)))
 |_=>false
theorem aM4 (H:aM3 l=true):SV.rns (ab2 []) [.agg ([.val (.int .i64 0), .val (.slice none 0 0), .val (.slice none 0 0)]++ci noU)]=some l:=by
 unfold aM3 at H;split at H
 ·simp only[za2] at H;obtain⟨h1,h2,h3,h4⟩:=H;rw[o8 h1,KU h2,KU h3,ni h4];rfl
 ·cases H
def aM5:MCtr:=λbl nx args=>match args with
 | [.agg (_:: .slc i _ _:: .slc j _ _::_)]=>bif Nat.beq i j then none else aiq [i,j] [eU.old [BL 0],eN.old [ndI]] (aM1 i j) (λ_=>(cB.enc true, [], [])) bl nx args
 |_=>aiq [] [] aM3 (λ_=>(cB.enc false, [], [])) bl nx args
theorem Tp (Q:zdR):dk [] (λ_ _=>none) 12 75 [svP 1 [BL 0] [ndI] (BL 0)] [eU.old [BL 0],eN.old [ndI]] (Go.Sy.okK λr _ _ _=>Q r)=Q (cB.enc true):=by kernel_rfl
theorem aNa (Q:zdR):dk [] (λ_ _=>none) 12 75 [.agg ([.val (.int .i64 0), .val (.slice none 0 0), .val (.slice none 0 0)]++ci noU)] [] (Go.Sy.okK λr _ _ _=>Q r)=Q (cB.enc false):=by kernel_rfl
variable {args:zdJ} {Cs:zdU} {src:zdH} {r:SV} {B:Base}
theorem aNe (hr:r.ids= []) (hm: ∀C∈Cs,cN C.kd=false) (Y:src.length=Cs.length) {R:Nat->ahc} (H:R=λ_=>(r, [], [])) {ok:List SV->Bool} (J: ∀l,ok l=true->SV.rns (ab2 src) args=some l) (hu:src.Nodup) (N:Far (src.map some) Cs)
 (h:dk [] (λ_ _=>none) 12 75 args Cs (Go.Sy.okK λs _ _ _=>s=r)) (hB:GlobB B):VU prog B 75 (aiq src Cs ok R):=
 afA (λB' hs=>aIi MOk.nil (hB.sub hs)) J hu N λb nx=>by
  have e:=lz (C:=rcL b (R nx)) (src:=src.map some) (nx:=nx) () trivial rfl hr (by rw[H];rfl) (by rw[H];rfl) (by rw[H];rfl) hm (by rw[zaB];exact Y) h;unfold dk at e;exact e
theorem aNd: ∀C∈ [eU.old [BL 0],eN.old [ndI]],C.kd= .old:=λC H=>by
 rcases zai.1 H with rfl|H
 ·rfl
 ·rw[zaj.1 H];rfl
theorem aM6 (hB:GlobB B):VU prog B 75 aM5:=by
 intro bl β wd nx args C a1 a2 a3 a4 N hp;unfold aM5 at N;split at N
 ·rename_i x i _ _ j _ _ r;cases H:Nat.beq i j with
  |true=>rw[H] at N;cases N
  |false=>
   rw[H,zdq] at N;exact aNe (r:=cB.enc true) rfl (λC J=>by rw[aNd C J];rfl) rfl rfl (λl Y=>aM2 Y) (aEc λe=>by rw[e] at H;simp at H) (.inl λC J=>by rw[aNd C J];rfl) (by rw[Tp]) hB bl β wd nx _ C a1 a2 a3 a4 N hp
 ·exact aNe (r:=cB.enc false) rfl (λC J=>by cases J) rfl rfl (λl Y=>aM4 Y) zcA (.inl λC J=>by cases J) (by rw[aNa]) hB bl β wd nx _ C a1 a2 a3 a4 N hp
theorem aFT:GPk aFK:=
 (((((aBh.cons (λd W H=>(BN.all W H.1.1 (26,k1 cI cU cl BL) (by simp[xK])).1) call26).cons (λd W H=>aD8 H) call43).cons (λd W H=>PR H.1.1) call60).cons (λd W H=>aM0 H) call14).cons (λd W H=>QX H) call12).cons (λd W H=>aC9 H) call17
theorem aFJ {g:List (FuncId×Ctr)} {gm:zdW} {ann:zdV} {n:Nat} {f:FuncId} (N:r.ids= []) (J: ∀C∈Cs,cN C.kd=false) (H:src.length=Cs.length)
 (h:ayw d g gm ann n f args Cs (Go.Sy.okK λs _ _ _=>s=r)) (b:Bool) (nx:Nat):ayw d g gm ann n f args Cs (KB (rcL b (r, [], [])) (src.map some) Cs nx):=
 kbP (C:=rcL b (r, [], [])) () trivial rfl N rfl rfl rfl J (by rw[zaB];exact H) h
variable {s:SV}
theorem aF1 (h:aGi s=true):s=aGC:=by
 unfold aGi at h;split at h
 ·rw[We.1 h];rfl
 ·cases h
theorem aFA (h:aFN s=true):s=sv1:=by
 unfold aFN at h;split at h
 ·rw[We.1 h];rfl
 ·cases h
theorem aFP (h:aFR s=true):s=sv0:=by
 unfold aFR at h;split at h
 ·rw[We.1 h];rfl
 ·cases h
theorem aGk (H:aGj j l=true):SV.rns (ab2 [j]) [aF4 0,aF4 0]=some l:=by
 unfold aGj at H;split at H
 ·simp only[za2] at H;obtain⟨h1,h2,h3,h4,h5,h6,h7,h8,h9,J⟩:=H;rw[zab h1,zab h2,aF1 h3,aFA h4,aFP h5,aFA h6,aF1 h7,aFA h8,aFP h9,aFA J];rfl
 ·cases H
theorem aFV {B:Blk} (h:B.kd= .old): ∀C∈ [B],C.kd= .old:=λC H=>by rw[zaj.1 H];exact h
theorem aGQ {A B:Blk} (k:A.kd= .old) (h:B.kd= .old): ∀C∈ [A,B],C.kd= .old:=λC H=>by
 rcases zai.1 H with rfl|H
 ·exact k
 ·exact aFV h C H
theorem aGl (h: ∀C∈Cs,C.kd= .old): ∀C∈Cs,cN C.kd=false:=λC H=>by rw[h C H];rfl
theorem aGm (h: ∀C∈Cs,C.kd= .old) (l:zdT):Far l Cs:= .inl λC H=>by rw[h C H];rfl
theorem aGn (j:Nat) (hB:GlobPB d B):VU prog B 96 (aiq [j] [aFL] (aGj j) λ_=>(aFS, [], [])):=
 aEZ (d:=d) (args0:= [aF4 0,aF4 0]) (ann:=λ_ _=>none) (n:=12) aFT KE (λl H=>aGk H) (by simp) (aGm (aFV rfl) _) (λb m=>aFJ (by simp[aFS,aF9,sv0,sv1,SV.ids,SV.idss]) (aGl (aFV rfl)) rfl (by rw[aGE];exact aFu rfl) b m) hB
theorem aGo (B:Base) (hB:GlobPB d B):VU prog B 96 aGD:=by
 intro bl β wd nx args C J N Y a4 H hp;unfold aGD at H;split at H
 ·exact aGn _ hB bl β wd nx _ C J N Y a4 H hp
 ·cases H
def aF5 (j:Nat):List SV->Bool
 | [.val (.string q), .slc i 0 2]=>seq q aFO&&Nat.beq i j
 |_=>false
theorem aF2 (H:aF5 j l=true):SV.rns (ab2 [j]) [.val (.string aFO), .slc 0 0 2]=some l:=by
 unfold aF5 at H;split at H
 ·simp only[za2] at H;rw[We.1 H.1,zab H.2];rfl
 ·cases H
def kEx:MCtr:=λbl nx args=>match args with
 | [.val (.string _), .slc j _ _]=>(match bl j with
   |some C=>(match C.get 1 with
    | [.val (.string a),_]=>bif seq a ⟨#[48]⟩ then aiq [j] [eR.old [r31,r01]] (aF5 j) (λ_=>(exB, [], [])) bl nx args else aiq [j] [eR.old [r31,r41]] (aF5 j) (λ_=>(exR, [], [])) bl nx args
    |_=>none)
   |none=>none)
 |_=>none
theorem aGp (j:Nat) (hB:GlobPB d B):VU prog B 18 (aiq [j] [eR.old [r31,r41]] (aF5 j) λ_=>(exR, [], [])):=
 aEZ (d:=d) (args0:= [.val (.string aFO), .slc 0 0 2]) (ann:=aF0) (n:=12) aFT KE (λl H=>aF2 H) (by simp) (aGm (aFV rfl) _) (λb m=>aFJ (by simp[exR,SV.ids,SV.idss]) (aGl (aFV rfl)) rfl (by unfold aFO;rw[aGF];exact aFu rfl) b m) hB
theorem aGq (j:Nat) (hB:GlobPB d B):VU prog B 18 (aiq [j] [eR.old [r31,r01]] (aF5 j) λ_=>(exB, [], [])):=
 aEZ (d:=d) (args0:= [.val (.string aFO), .slc 0 0 2]) (ann:=aF0) (n:=12) aFT KE (λl H=>aF2 H) (by simp) (aGm (aFV rfl) _) (λb m=>aFJ (by simp[exB,SV.ids,SV.idss]) (aGl (aFV rfl)) rfl (by unfold aFO;rw[aGG];exact aFu (ac (by simp) rfl)) b m) hB
theorem aGH (B:Base) (hB:GlobPB d B):VU prog B 18 kEx:=by
 intro bl β wd nx args C J N Y a4 H hp;unfold kEx at H;split at H
 ·split at H
  ·split at H
   ·rename_i j _ _ _ D _ a _ _;cases hs:seq a ⟨#[48]⟩ with
    |true=>rw[hs,zdr] at H;exact aGq _ hB bl β wd nx _ C J N Y a4 H hp
    |false=>rw[hs,zdq] at H;exact aGp _ hB bl β wd nx _ C J N Y a4 H hp
   ·cases H
  ·cases H
 ·cases H
def aF3:zdG:=⟨#[1,0,2,0,5,9]⟩
def aGr (i:Nat):List SV->Bool
 | [.val (.string q), .slc k 0 1, .val (.int .i64 n)]=>seq q aF3&&(Nat.beq k i&&(n==3))
 |_=>false
theorem aGs (H:aGr i l=true):SV.rns (ab2 [i,j]) [.val (.string aF3), .slc 0 0 1, .val (.int .i64 3)]=some l:=by
 unfold aGr at H;split at H
 ·simp only[za2] at H;rw[We.1 H.1,zab H.2.1,eq_of_beq H.2.2];rfl
 ·cases H
def kRn:MCtr:=λbl nx args=>match args with
 | [.val (.string _), .slc i _ _, .val (.int .i64 _)]=>(match bl i with
   |some C=>(match C.get 0 with
    | [_,_, .slc j _ _,_,_]=>bif Nat.beq i j then none else aiq [i,j] [aGa 1,aFL] (aGr i) (λ_=>(aFS, [], [])) bl nx args
    |_=>none)
   |none=>none)
 |_=>none
theorem aGI (H:i≠j) (hB:GlobPB d B):VU prog B 25 (aiq [i,j] [aGa 1,aFL] (aGr i) λ_=>(aFS, [], [])):=
 aEZ (d:=d) (args0:= [.val (.string aF3), .slc 0 0 1, .val (.int .i64 3)]) (ann:=aGy) (n:=12) aFT (KE.cons aGo) (λl J=>aGs J) (aEc H) (aGm (aGQ rfl rfl) _) (λb m=>aFJ (by simp[aFS,aF9,sv0,sv1,SV.ids,SV.idss]) (aGl (aGQ rfl rfl)) rfl (by
  have e:=aGP d (λs=>s=aFS);unfold aGO at e;unfold aF3;rw[e];refine aFu (ac ?_ λ_ _=>aFu rfl);unfold aeT;rw[za2,ac5,ac5]
  exact⟨rfl,rfl⟩) b m) hB
theorem aGJ (B:Base) (hB:GlobPB d B):VU prog B 25 kRn:=by
 intro bl β wd nx args C N Y a3 a4 H hp;unfold kRn at H;split at H
 ·split at H
  ·split at H
   ·rename_i i _ _ _ _ _ D _ _ _ j _ _ _ _ _;cases J:Nat.beq i j with
    |true=>rw[J] at H;cases H
    |false=>
     rw[J,zdq] at H;exact aGI (λe=>by rw[e] at J;simp at J) hB bl β wd nx _ C N Y a3 a4 H hp
   ·cases H
  ·cases H
 ·cases H
def aGK (d:Ad3):zdW:=(18,kEx)::(25,kRn)::(75,aM5)::azT d
theorem aGt:MPk d (aGK d):=((KE.cons λB hB=>aM6 hB.gE.gU).cons aGJ).cons aGH
def sa1 (K:Prop):Prop:=ah (aeT (λ_=>some (eR.old [r31,r41])) [0] [eR.old [r31,r41]]) (U11 K)
def sa2 (K:Prop):Prop:=ah (aeT (λ_=>some (eR.old [r31,r01])) [0] [eR.old [r31,r01]]) (U11 K)
def sa3 (i j:Nat) (K:Prop):Prop:=ah (aeT (λk=>bif Nat.beq k i then some (aGa j) else some aFL) [i,j] [aGa 1,aFL]) (U11 K)
def aGR:zdM:=je (ci (BL 0)) 20
def aGS:zdM:=je (svN ndI) 26
def aNf:Bool:=aeT (λk=>bif Nat.beq k 0 then some {n:=1,sz:=20,get:=aGR,kd:= .own} else some {n:=1,sz:=26,get:=aGS,kd:= .own}) [0,1] [eU.old [BL 0],eN.old [ndI]]
def aNg:Bool:=aeT (λ_=>none) [] []
theorem aF6 (d:Ad3) (Q:zdR):my d aFK (aGK d) (λ_ _=>none) 12 7 [] Q=
 sa1 (sa2 (sa3 114 100 (ah aNf (U11 (uKn 3 (ah aNg (U11 (uKn 1 (azn d (Q (cB.enc true))))))))))):=by kernel_rfl
end Go.Proofs.YtdjfpjmijhjmpaaGreatDoor
