import Derived.Lib.ItoaNum
import Derived.Laws.Strings
import Derived.Lib.Atoi
import Derived.Lib.Hide
import Derived.Below
import Derived.Laws.Sem
set_option linter.unusedVariables false
set_option linter.unusedSimpArgs false
abbrev za0:=@Nat.le_refl
abbrev za1:=@Option.some.injEq
abbrev za2:=@Bool.and_eq_true
abbrev za3:=@List.length_append
abbrev za4:=@List.length_cons
abbrev za5:=@List.append_assoc
abbrev za6:=@List.length_singleton
abbrev za7:=@Nat.zero_add
abbrev za8:=@List.mem_append
abbrev za9:=@List.length_nil
abbrev zaa:=@List.getElem?_eq_getElem
abbrev zab:=@Nat.eq_of_beq_eq_true
abbrev zac:=@Nat.le_trans
abbrev zad:=@List.getElem?_eq_none
abbrev zae:=@Nat.ble_eq_true_of_le
abbrev zaf:=@List.all_eq_true
abbrev zag:=@Prod.mk.injEq
abbrev zah:=@Nat.lt_or_ge
abbrev zai:=@List.mem_cons
abbrev zaj:=@List.mem_singleton
abbrev zak:=@Nat.le_of_ble_eq_true
abbrev zal:=@List.mem_of_getElem?
abbrev zam:=@Nat.lt_of_lt_of_le
abbrev zan:=@List.mem_cons_of_mem
abbrev zao:=@Nat.mul_add
abbrev zap:=@Bool.not_eq_true'
abbrev zaq:=@Array.getElem?_eq_some_iff
abbrev zar:=@Nat.mod_lt
abbrev zas:=@List.getElem_mem
abbrev zat:=@Int.le_refl
abbrev zau:=@List.eq_nil_of_length_eq_zero
abbrev zav:=@Bool.or_eq_true
abbrev zaw:=@Nat.pow_succ
abbrev zax:=@Bool.eq_iff_iff
abbrev zay:=@Nat.mul_comm
abbrev zaz:=@List.mem_map
abbrev zaA:=@Nat.zero_le
abbrev zaB:=@List.length_map
abbrev zaC:=@List.mem_range
abbrev zaD:=@Nat.mul_assoc
abbrev zaE:=@List.length_take
abbrev zaF:=@Int.natAbs_mul
abbrev zaG:=@Nat.add_mul
abbrev zaH:=@List.drop_eq_getElem_cons
abbrev zaI:=@List.take_of_length_le
abbrev zaJ:=@Nat.sub_self
abbrev zaK:=@List.map_cons
abbrev zaL:=@List.getElem?_map
abbrev zaM:=@List.nil_append
abbrev zaN:=@Nat.div_le_self
abbrev zaO:=@List.cons_append
abbrev zaP:=@List.any_eq_true
abbrev zaQ:=@Bool.and_true
abbrev zaR:=@List.set_cons_succ
abbrev zaS:=@Nat.lt_of_le_of_lt
abbrev zaT:=@Nat.le_succ
abbrev zaU:=@Int.mul_pos
abbrev zaV:=@List.getElem?_eq_some_iff
abbrev zaW:=@Array.ext'
abbrev zaX:=@Nat.sub_zero
abbrev zaY:=@Nat.add_zero
abbrev zaZ:=@List.drop_zero
abbrev zb0:=@Option.map_some
abbrev zb1:=@List.mem_append_right
abbrev zb2:=@Nat.blt_eq
abbrev zb3:=@Nat.add_comm
abbrev zb4:=@Nat.mul_le_mul
abbrev zb5:=@Nat.mul_le_mul_left
abbrev zb6:=@Bool.true_and
abbrev zb7:=@Nat.pow_le_pow_right
abbrev zb8:=@List.map_append
abbrev zb9:=@Int.natCast_mul
abbrev zba:=@List.set_cons_zero
abbrev zbb:=@Nat.add_sub_cancel_left
abbrev zbc:=@Bool.not_eq_true
abbrev zbd:=@List.mem_of_mem_take
abbrev zbe:=@List.foldl_cons
abbrev zbf:=@List.append_nil
abbrev zbg:=@Bool.not_false
abbrev zbh:=@Bool.not_true
abbrev zbi:=@Bool.false_or
abbrev zbj:=@Option.some.inj
abbrev zbk:=@List.setIfInBounds_toArray
abbrev zbl:=@Nat.mul_le_mul_right
abbrev zbm:=@Nat.not_lt_zero
abbrev zbn:=@Bool.false_eq_true
abbrev zbo:=@List.length_pos_iff
abbrev zbp:=@List.size_toArray
abbrev zbq:=@Nat.add_assoc
abbrev zbr:=@Bool.or_eq_false_iff
abbrev zbs:=@Nat.le_of_lt
abbrev zbt:=@List.ext_getElem
abbrev zbu:=@List.take_zero
abbrev zbv:=@Nat.pow_add
abbrev zbw:=@List.not_mem_nil
abbrev zbx:=@List.all_cons
abbrev zby:=@List.getElem?_of_mem
abbrev zbz:=@List.foldl_append
abbrev zbA:=@List.getElem?_cons_zero
abbrev zbB:=@List.getElem?_append_left
abbrev zbC:=@Nat.div_eq_of_lt
abbrev zbD:=@List.mem_of_mem_drop
abbrev zbE:=@Option.map_eq_some_iff
abbrev zbF:=@List.mem_cons_self
abbrev zbG:=@Nat.mod_eq_of_lt
abbrev zbH:=@List.map_congr_left
abbrev zbI:=@List.mem_append_left
abbrev zbJ:=@List.pairwise_append
abbrev zbK:=@Nat.eq_zero_or_pos
abbrev zbL:=@Nat.gcd_comm
abbrev zbM:=@Int.mul_neg
abbrev zbN:=@Nat.mul_lt_mul''
abbrev zbO:=@Nat.div_lt_iff_lt_mul
abbrev zbP:=@Nat.min_eq_left
abbrev zbQ:=@List.length_drop
abbrev zbR:=@List.getElem_of_mem
abbrev zbS:=@Array.replicate_succ
abbrev zbT:=@Array.replicate_zero
abbrev zbU:=@List.push_toArray
abbrev zbV:=@List.append_toArray
abbrev zbW:=@List.head?_eq_getElem?
abbrev zbX:=@List.getElem?_append_right
abbrev zbY:=@Nat.mul_one
abbrev zbZ:=@Int.natAbs_natCast
abbrev zc0:=@List.take_add_one
abbrev zc1:=@List.length_reverse
abbrev zc2:=@List.forall_mem_cons
abbrev zc3:=@Int.gcd_pos_of_ne_zero_right
abbrev zc4:=@List.map_nil
abbrev zc5:=@Bool.and_self
abbrev zc6:=@Nat.div_lt_self
abbrev zc7:=@Prod.ext
abbrev zc8:=@Int.mul_add
abbrev zc9:=@List.cons.injEq
abbrev zca:=@List.nodup_append
abbrev zcb:=@List.getElem?_take_of_lt
abbrev zcc:=@Int.toNat_of_nonneg
abbrev zcd:=@List.replicate_succ
abbrev zce:=@Nat.succ_mul
abbrev zcf:=@List.getElem?_cons_succ
abbrev zcg:=@List.append_of_mem
abbrev zch:=@Nat.mod_one
abbrev zci:=@List.length_set
abbrev zcj:=@List.getElem_set_self
abbrev zck:=@List.forall_mem_nil
abbrev zcl:=@Int.emod_nonneg
abbrev zcm:=@Int.zero_mul
abbrev zcn:=@Int.tmod_lt_of_pos
abbrev zco:=@Int.tmod_nonneg
abbrev zcp:=@Int.natAbs_tdiv_le_natAbs
abbrev zcq:=@Array.getElem?_eq_getElem
abbrev zcr:=@List.getLast?_cons
abbrev zcs:=@List.map_reverse
abbrev zct:=@List.map_map
abbrev zcu:=@List.foldl_nil
abbrev zcv:=@Int.mul_ediv_add_emod
abbrev zcw:=@List.length_replicate
abbrev zcx:=@List.getElem?_drop
abbrev zcy:=@Nat.lt_succ_self
abbrev zcz:=@Nat.lt_irrefl
abbrev zcA:=@List.nodup_nil
abbrev zcB:=@List.mapM_cons
abbrev zcC:=@Array.getElem?_eq_none
abbrev zcD:=@Nat.zero_mul
abbrev zcE:=@Option.map_none
abbrev zcF:=@Option.bind_some
abbrev zcG:=@Array.getD_eq_getD_getElem?
abbrev zcH:=@List.mem_filterMap
abbrev zcI:=@List.length_eq_zero_iff
abbrev zcJ:=@List.pairwise_cons
abbrev zcK:=@List.drop_of_length_le
abbrev zcL:=@List.mem_or_eq_of_mem_set
abbrev zcM:=@Nat.div_add_mod
abbrev zcN:=@Int.zero_sub
abbrev zcO:=@Int.emod_lt_of_pos
abbrev zcP:=@Int.eq_ofNat_of_zero_le
abbrev zcQ:=@List.any_cons
abbrev zcR:=@Nat.mod_add_div
abbrev zcS:=@Nat.add_mul_mod_self_left
abbrev zcT:=@Nat.add_mul_div_left
abbrev zcU:=@List.mem_reverse
abbrev zcV:=@List.reverse_append
abbrev zcW:=@Int.natCast_add
abbrev zcX:=@List.dropLast_concat_getLast
abbrev zcY:=@List.length_tail
abbrev zcZ:=@Int.ediv_neg
abbrev zd0:=@Int.emod_neg
abbrev zd1:=@Array.mem_of_getElem?
abbrev zd2:=@Int.toNat_natCast
abbrev zd3:=@List.range_succ
abbrev zd4:=@List.flatMap_append
abbrev zd5:=@List.append_eq_nil_iff
abbrev zd6:=@List.nodup_cons
abbrev zd7:=@Nat.exists_eq_add_of_le
abbrev zd8:=@Nat.le_add_right
abbrev zd9:=@List.getElem?_take
abbrev zda:=@List.all_reverse
abbrev zdb:=@Array.getElem?_setIfInBounds_ne
abbrev zdc:=@List.getElem?_toArray
abbrev zdd:=@Array.mapM_eq_mapM_toList
abbrev zde:=@Array.size_setIfInBounds
abbrev zdf:=@List.eq_nil_iff_forall_not_mem
abbrev zdg:=@List.rel_of_pairwise_cons
abbrev zdh:=@List.getD_eq_getElem?_getD
abbrev zdi:=@List.getElem?_reverse
abbrev zdj:=@Int.gcd_natCast_natCast
abbrev zdk:=@ByteArray.data_extract
abbrev zdl:=@List.getLast?_eq_some_iff
abbrev zdm:=@List.take_append_drop
abbrev zdn:=@Array.getElem?_modify
abbrev zdo:=@Array.getElem?_append
abbrev zdp:=@decide_eq_true
abbrev zdq:=@cond_false
abbrev zdr:=@cond_true
abbrev zds:=@decide_eq_false
abbrev zdt:=@decide_eq_true_eq
abbrev zdu:=@of_decide_eq_true
abbrev zdv:=@of_decide_eq_false
abbrev zdw:=@beq_eq_false_iff_ne
abbrev zdx:=@beq_iff_eq
abbrev zdy:=@decide_eq_false_iff_not
abbrev zdz:=@decide_eq_decide
abbrev zdA:=@bne_iff_ne
abbrev zdB:=@Go.Lib.hid
abbrev zdC:=@Go.RowKit.Below.refl
abbrev zdD:=@Go.Result.andThen_ok
abbrev zdE:=@Go.Sem.run_bind
abbrev zdF:=@Go.Sem.run_pure
namespace Yk
open Go
def dig (c:UInt8):Bool:=48<=c&&c<=57
theorem eE (c:UInt8):dig c=true↔48<=c.toNat/\c.toNat<=57:=by
 simp[dig,UInt8.le_iff_toNat_le]
def body (l:List UInt8):List UInt8:=if l.head? =some 45 then l.tail else l
def vld (l:List UInt8):Bool:=
 decide (body l≠ [])&&decide ((body l).length<=200)&&(body l).all dig&&(decide (l= [48])||decide ((body l).head? ≠some 48))
abbrev _root_.zdG:=ByteArray
theorem kE (s:zdG) (i:Nat) (h:i<s.size):s.data.toList[i]? =some s[i]:=by
 rw[Array.getElem?_toList];exact zcq h
theorem bj (s:zdG):s.data.toList.length=s.size:=by simp
theorem BS (s:zdG):(s.extract 1 s.size).data.toList=s.data.toList.tail:=by
 rw[zdk];simp;rw[zaI (by simp)]
theorem gT {a b:zdG} (h:a.data.toList=b.data.toList):a=b:=by
 cases a;cases b;simp at h;simp[h]
theorem cL (s:zdG):s.toList=s.data.toList:=by
 exact ByteArray.toList_eq s
variable {l:List UInt8}
theorem zU (h:vld l=true): ∀(i:Nat) c,(body l)[i]? =some c->48<=c.toNat/\c.toNat<=57:=by
 intro i c H;simp only[vld,za2,zaf] at h;exact(eE c).1 (h.1.2 c (zal H))
theorem aJJ {i:Nat} {c:UInt8} (H:(body l)[i]? =some c) (h:c.toNat<48\/57<c.toNat):vld l=false:=by
 cases J:vld l with
 |false=>rfl
 |true=>have:=zU J i c H;omega
theorem uN (h:body l= []):vld l=false:=by simp[vld,h]
theorem rm (h:200<(body l).length):vld l=false:=by
 simp[vld];omega
theorem xM (h0:body l≠ []) (h1:(body l).length<=200) (h2: ∀(i:Nat) c,(body l)[i]? =some c->48<=c.toNat/\c.toNat<=57):
 vld l=(decide (l= [48])||decide ((body l).head? ≠some 48)):=by
 have h3:(body l).all dig=true:=by
  rw[zaf];intro c H;obtain⟨i,hi⟩:=zby H;exact(eE c).2 (h2 i c hi)
 simp[vld,h0,h1,h3]
theorem xN (h:l.head? =some 45):body l=l.tail:=by simp[body,h]
theorem nH (h:l.head? ≠some 45):body l=l:=by simp[body,h]
end Yk
namespace Yk
def val (B:Nat):List Nat->Nat
 | []=>0
 |d::t=>d+B*val B t
abbrev _root_.zdH:=List Nat
theorem alj (B:Nat) (l m:zdH):val B (l++m)=val B l+B^l.length*val B m:=by
 induction l with
 |nil=>simp[val]
 |cons d t H=>simp only[zaO,val,H,za4,zaw,zao];rw[zay (B^t.length) B,zaD];omega
theorem gV (B:Nat) (l:zdH) (d:Nat):val B (l++ [d])=val B l+B^l.length*d:=by
 rw[alj];simp[val]
theorem kF {B:Nat}: ∀{l:zdH},(∀d∈l,d<B)->val B l<B^l.length
 | [],_=>by simp[val]
 |d::t,h=>by
  have h1:=h d (by simp);have h2:=kF (B:=B) (l:=t) (λx H=>h x (by simp[H]));simp only[val,za4,zaw];have h3:B*(val B t+1)<=B*B^t.length:=zb5 B h2;rw[zao] at h3;rw[zay (B^t.length) B];omega
def ae (B n:Nat):zdH:=if h:n=0\/B<2 then [] else n%B::ae B (n / B)
termination_by n
decreasing_by exact zc6 (by omega) (by omega)
theorem aF (B:Nat):ae B 0= []:=by rw[ae];simp
variable {B n:Nat}
theorem fe (hB:2<=B) (h:n≠0):ae B n=n%B::ae B (n / B):=by
 rw[ae,dif_neg (by omega)]
theorem bi (hB:2<=B) (n:Nat):val B (ae B n)=n:=by
 induction n using Nat.strongRecOn with
 |_ n H=>
  by_cases h:n=0
  ·rw[h,aF];rfl
  ·rw[fe hB h,val,H (n / B) (zc6 (by omega) (by omega))];exact zcR n B
theorem aK (hB:2<=B) (n:Nat): ∀d∈ae B n,d<B:=by
 induction n using Nat.strongRecOn with
 |_ n J=>
  by_cases h:n=0
  ·rw[h,aF];simp
  ·rw[fe hB h];intro d H;rcases zai.1 H with rfl|H
   ·exact zar _ (by omega)
   ·exact J (n / B) (zc6 (by omega) (by omega)) d H
def xO (B:Nat) (l:zdH):Prop:=(∀d∈l,d<B)/\l.getLast? ≠some 0
theorem aZ (hB:2<=B):ae B n= []↔n=0:=by
 constructor
 ·intro h;have:=bi hB n;rw[h] at this;exact this.symm
 ·rintro rfl;exact aF B
theorem oT (hB:2<=B) (n:Nat):(ae B n).getLast? ≠some 0:=by
 induction n using Nat.strongRecOn with
 |_ n J=>
  by_cases h:n=0
  ·rw[h,aF];simp
  ·rw[fe hB h];by_cases h2:n / B=0
   ·rw[h2,aF];have:n%B=n:=by rw[Nat.div_eq_zero_iff] at h2;exact zbG (by omega)
    simp[this,h]
   ·have h3:=J (n / B) (zc6 (by omega) (by omega));rw[zcr];cases H:ae B (n / B) with
    |nil=>rw[aZ hB] at H;exact absurd H h2
    |cons a t=>rw[H] at h3;simpa [zcr] using h3
theorem am4 {B:Nat} (hB:2<=B): ∀{l:zdH},l≠ []->l.getLast? ≠some 0->0<val B l
 | [],h,_=>absurd rfl h
 | [d],_,h=>by simp at h;simp[val];omega
 |d::e::t,_,h=>by
  have h2:=am4 hB (l:=e::t) (by simp) (by simpa [zcr] using h);rw[val];have:0<B*val B (e::t):=Nat.mul_pos (by omega) h2;omega
theorem arL {B:Nat} (hB:2<=B): ∀{l:zdH},xO B l->ae B (val B l)=l
 | [],_=>aF B
 |d::t,h=>by
  have H:=h.1 d (by simp)
  have J:xO B t:=⟨λx N=>h.1 x (by simp[N]),by
   cases t with
   |nil=>simp
   |cons a u=>simpa [zcr] using h.2⟩
  have hp:val B (d::t)≠0:=by have:=am4 hB (l:=d::t) (by simp) h.2;omega
  rw[fe hB hp,val,zcS,zbG H,zcT _ _ (by omega),zbC H,za7,arL hB J]
theorem kG (hB:2<=B) {l:zdH} (h:xO B l) (H:val B l=n):l=ae B n:=by
 rw[<-H,arL hB h]
theorem ai (hB:2<=B) (n k:Nat):(ae B n).length<=k↔n<B^k:=by
 induction k generalizing n with
 |zero=>simp[aZ hB]
 |succ k H=>
  by_cases h:n=0
  ·rw[h,aF];simp;exact Nat.pow_pos (by omega)
  ·rw[fe hB h,za4,Nat.succ_le_succ_iff,H,zaw];exact zbO (by omega)
variable {d:Nat}
theorem gW (hB:2<=B) (h:d<B) (h0:d≠0):ae B d= [d]:=by
 rw[fe hB h0,zbG h,zbC h,aF]
theorem zV (hB:2<=B) (h:d<B) (h0:d+B*n≠0):ae B (d+B*n)=d::ae B n:=by
 rw[fe hB h0,zcS,zbG h,zcT _ _ (by omega),zbC h,za7]
def fW (l:zdH):zdH:=if l.getLast? =some 0 then fW l.dropLast else l
termination_by l.length
decreasing_by
 rename_i h;cases l with
 |nil=>simp at h
 |cons a t=>simp
theorem Dm (B:Nat) (l:zdH):val B (fW l)=val B l:=by
 induction h:l.length using Nat.strongRecOn generalizing l with
 |_ n N=>
  rw[fW];split
  ·rename_i h0;obtain⟨J,h1⟩:=zdl.1 h0;have H:l=l.dropLast++ [0]:=by
    conv=>lhs;rw[h1]
    rw[h1];simp
   rw[N l.dropLast.length (by rw[H] at h ⊢;simp at h ⊢;omega) l.dropLast rfl]
   conv=>rhs;rw[H]
   rw[gV];simp
  ·rfl
theorem xP (l:zdH) (h: ∀d∈l,d<B):xO B (fW l):=by
 induction J:l.length using Nat.strongRecOn generalizing l with
 |_ n N=>
  rw[fW];split
  ·rename_i h0;refine N l.dropLast.length ?_ l.dropLast (λd H=>h d ((List.dropLast_sublist l).subset H)) rfl;cases l with
   |nil=>simp at h0
   |cons a t=>simp at J ⊢;omega
  ·rename_i h0;exact⟨h,h0⟩
theorem xQ (hB:2<=B) (l:zdH) (h: ∀d∈l,d<B):fW l=ae B (val B l):=by
 rw[<-Dm B l];exact(arL hB (xP l h)).symm
end Yk
namespace Yk
theorem oU (B:Nat) (l:zdH) (i:Nat) (h:i<l.length):val B l=val B (l.take i)+B^i*(l[i]+B*val B (l.drop (i+1))):=by
 conv=>lhs;rw[<-zdm i l]
 rw[alj,zaE,zbP (by omega),zaH h];rfl
variable {B i:Nat} {l m:zdH}
theorem FH (J:i<l.length) (N:i<m.length) (H: ∀d∈l,d<B) (h1:l.drop (i+1)=m.drop (i+1)) (h2:l[i]<m[i]):val B l<val B m:=by
 rw[oU B l i J,oU B m i N,h1];have h3:=kF (B:=B) (l:=l.take i) (λd h=>H d (zbd h));rw[zaE,zbP (by omega)] at h3;generalize B*val B (m.drop (i+1))=r at*
 have h4:B^i*(l[i]+r+1)<=B^i*(m[i]+r):=zb5 _ (by omega);rw[zao] at h4;omega
variable {x y:Nat}
theorem fX (hB:2<=B) (h:(ae B x).length<(ae B y).length):x<y:=by
 have h1:=(ai hB x (ae B x).length).1 (za0 _);have h2:=mt (ai hB y (ae B x).length).2 (by omega);omega
theorem lD (hB:2<=B) (H:i<(ae B x).length) (J:i<(ae B y).length) (h1:(ae B x).drop (i+1)=(ae B y).drop (i+1)) (h2:(ae B x)[i]<(ae B y)[i]):x<y:=by
 have:=FH H J (aK hB x) h1 h2;rwa[bi hB,bi hB] at this
theorem nI (hB:2<=B) (h:ae B x=ae B y):x=y:=by rw[<-bi hB x,h,bi hB]
def dB (x y:Nat):Int:=if x<y then -1 else if y<x then 1 else 0
theorem jN (h:x<y):dB x y= -1:=by simp[dB,h]
theorem jO {x y:Nat} (h:y<x):dB x y=1:=by have: ¬x<y:=by omega
                                          simp[dB,h,this]
theorem BT (h:x=y):dB x y=0:=by subst h;simp[dB]
theorem Dn (H:i<l.length) (J:i<m.length) (h1:l.drop (i+1)=m.drop (i+1)) (h2:l[i]=m[i]):l.drop i=m.drop i:=by
 rw[zaH H,zaH J,h1,h2]
end Yk
namespace Yk
variable {l:zdH} {k:Nat}
theorem rp (h:k<l.length) (h0:l[k]=0):fW (l.take (k+1))=fW (l.take k):=by
 have e:l.take (k+1)=l.take k++ [0]:=by rw[zc0,zaa h,h0];rfl
 rw[e,fW,if_pos (by simp)];simp
theorem rq (h:k<l.length) (h0:l[k]≠0):fW (l.take (k+1))=l.take (k+1):=by
 have e:l.take (k+1)=l.take k++ [l[k]]:=by rw[zc0,zaa h];rfl
 rw[e,fW,if_neg (by rw[List.getLast?_concat];simpa using h0)]
theorem uO:fW []= []:=by rw[fW];simp
end Yk
namespace Yk
open Go
def dv (c:UInt8):Nat:=c.toNat - 48
def bm (l:List UInt8):Nat:=val 10 (l.reverse.map dv)
def bf (l:List UInt8):Bool:=decide (l.head? =some 45)
def toI (l:List UInt8):Int:=if l.head? =some 45 then -(bm (body l):Int) else bm (body l)
variable {c:UInt8}
theorem MO (h:dig c=true):dv c<10:=by have:=(eE c).1 h;unfold dv;omega
variable {l:List UInt8}
theorem dh (h:vld l=true):body l≠ []/\(body l).length<=200/\(∀c∈body l,dig c=true)/\(l= [48]\/(body l).head? ≠some 48):=by
 simp only[vld,za2,zav,zdt,zaf] at h;exact⟨h.1.1.1,h.1.1.2,h.1.2,h.2⟩
theorem Nq (h1:body l≠ []) (h2:(body l).length<=200) (h3: ∀c∈body l,dig c=true) (h4:l= [48]\/(body l).head? ≠some 48):vld l=true:=by
 simp only[vld,za2,zav,zdt,zaf];exact⟨⟨⟨h1,h2⟩,h3⟩,h4⟩
theorem nJ (h:vld l=true) (h0:l≠ [48]):body l≠ [48]:=by
 intro e;rcases(dh h).2.2.2 with h1|h1
 ·exact h0 h1
 ·rw[e] at h1;simp at h1
theorem oV (h:vld l=true) (h0:l≠ [48]):(body l).reverse.map dv=ae 10 (bm (body l)):=by
 obtain⟨h1,h2,h3,h4⟩:=dh h;refine kG (by decide) ⟨?_, ?_⟩ rfl
 ·intro d J;obtain⟨c,N,rfl⟩:=zaz.1 J;exact MO (h3 c (zcU.1 N))
 ·rw[List.getLast?_map,List.getLast?_reverse];have h5:=h4.resolve_left h0;cases H:(body l).head? with
  |none=>simp
  |some c=>
   have J:=(eE c).1 (h3 c (List.mem_of_head? H));rw[H] at h5;simp only[zb0,ne_eq,za1];have:c≠48:=λe=>h5 (by rw[e]);have h6:c.toNat≠48:=λe=>this (UInt8.toNat_inj.1 e);unfold dv;omega
theorem xR (h: ∀c∈l,dig c=true):bm l<10^l.length:=by
 have:=kF (B:=10) (l:=l.reverse.map dv) (by
  intro d J;obtain⟨c,H,rfl⟩:=zaz.1 J
  exact MO (h c (zcU.1 H)))
 simpa [bm] using this
def BIG:Nat:=10^200
theorem Nr (h:vld l=true):(toI l).natAbs<BIG:=by
 obtain⟨h1,h2,h3,h4⟩:=dh h;have h5:=xR h3;have h6:10^(body l).length<=10^200:=zb7 (by decide) h2;unfold toI BIG;split<;>omega
theorem anF (l:List UInt8):(toI l).natAbs=bm (body l):=by
 unfold toI;split<;>omega
theorem aL (u:Nat):Lib.decDigits u=if u=0 then [48] else(ae 10 u).reverse.map (λd=>UInt8.ofNat (48+d)):=by
 induction u using Nat.strongRecOn with
 |_ u H=>
  by_cases h:u<10
  ·rw[Lib.decDigits,dif_pos h];by_cases h0:u=0
   ·subst h0;rfl
   ·rw[if_neg h0,gW (by decide) h h0];rfl
  ·rw[Lib.decDigits,dif_neg h,H (u / 10) (by omega),if_neg (by omega),if_neg (by omega),fe (n:=u) (by decide) (by omega)];simp
theorem FI (h:dig c=true):UInt8.ofNat (48+dv c)=c:=by
 have:=(eE c).1 h;apply UInt8.toNat_inj.1;unfold dv;simp;omega
variable {d:Nat}
theorem FJ (h:d<10):dv (UInt8.ofNat (48+d))=d:=by
 unfold dv;simp;omega
theorem Do (h:d<10):dig (UInt8.ofNat (48+d))=true:=by
 rw[eE];simp;omega
theorem mr (u:Nat): ∀c∈Lib.decDigits u,dig c=true:=by
 intro c H;rw[aL] at H;split at H
 ·simp at H;subst H;rfl
 ·obtain⟨d,J,rfl⟩:=zaz.1 H;exact Do (aK (by decide) u d (zcU.1 J))
theorem arJ (u:Nat):bm (Lib.decDigits u)=u:=by
 rw[aL];split
 ·rename_i h;subst h;rfl
 ·unfold bm;rw[<-zcs,List.reverse_reverse,zct];rw[show (ae 10 u).map (dv ∘ λd=>UInt8.ofNat (48+d))=ae 10 u from ?_,bi (by decide)]
  conv=>rhs;rw[<-List.map_id (ae 10 u)]
  exact zbH λd H=>FJ (aK (by decide) u d H)
theorem jo (u:Nat):Lib.decDigits u≠ []:=by
 rw[aL];split
 ·simp
 ·rename_i h;simp[aZ,h]
theorem dP (u k:Nat) (H:1<=k):(Lib.decDigits u).length<=k↔u<10^k:=by
 rw[aL];split
 ·rename_i h;subst h;simp;constructor
  ·intro _;exact Nat.pow_pos (by decide)
  ·intro _;exact H
 ·simpa using ai (by decide) u k
theorem qA (h:vld l=true):Lib.decDigits (bm (body l))=body l:=by
 by_cases h0:l= [48]
 ·subst h0;decide+kernel
 ·have h1:=oV h h0;obtain⟨H,Y,J,a4⟩:=dh h;rw[aL,if_neg,<-h1,zcs,zcs,zcs,List.reverse_reverse,zct]
  ·conv=>rhs;rw[<-List.map_id (body l)]
   exact zbH λc N=>FI (J c N)
  ·intro e;rw[e,aF] at h1;exact H (by simpa using h1)
theorem rr (u:Nat):(Lib.decDigits u).head? =some 48->u=0:=by
 rw[aL];split
 ·intro _;assumption
 ·rename_i h;intro e;rw[List.head?_map,List.head?_reverse] at e;have h1:=oT (B:=10) (by decide) u;cases H:(ae 10 u).getLast? with
  |none=>rw[H] at e;simp at e
  |some d=>
   rw[H] at e h1;have J:=aK (B:=10) (by decide) u d (List.mem_of_getLast? H);simp only[zb0,za1] at e;have:=congrArg UInt8.toNat e;simp at this;exfalso;apply h1;congr 1;omega
theorem iL (u:Nat):(Lib.decDigits u).head? ≠some 45:=by
 intro e;have:=mr u 45 (List.mem_of_head? e);exact absurd this (by decide)
variable {n:Int}
theorem kH (h:n<0):Lib.itoa n=45::Lib.decDigits n.natAbs:=by simp[Lib.itoa,h]
theorem dX (h:0<=n):Lib.itoa n=Lib.decDigits n.natAbs:=by
 have: ¬n<0:=by omega
 simp only[Lib.itoa,this,if_false]
 congr 1;omega
theorem gL (n:Int):body (Lib.itoa n)=Lib.decDigits n.natAbs:=by
 by_cases h:n<0
 ·rw[kH h];rfl
 ·rw[dX (by omega)];exact nH (iL _)
theorem oW (n:Int):(Lib.itoa n).head? =some 45↔n<0:=by
 by_cases h:n<0
 ·rw[kH h];simp[h]
 ·rw[dX (by omega)];simp only[h,iff_false];exact iL _
theorem FK (n:Int):toI (Lib.itoa n)=n:=by
 unfold toI;rw[gL,arJ];by_cases h:n<0
 ·rw[if_pos ((oW n).2 h)];omega
 ·rw[if_neg (λe=>h ((oW n).1 e))];omega
theorem FL (n:Int):vld (Lib.itoa n)=true↔n.natAbs<BIG:=by
 have H:=dP n.natAbs 200 (by decide);constructor
 ·intro h;have:=(dh h).2.1;rw[gL] at this;exact H.1 this
 ·intro h;refine Nq (by rw[gL];exact jo _) (by rw[gL];exact H.2 h) (by rw[gL];exact mr _) ?_;rw[gL];by_cases h0:n=0
  ·left;subst h0;decide+kernel
  ·right;intro e;have:=rr _ e;omega
theorem ru (h:vld l=true):Lib.itoa (toI l)=l:=by
 have h1:=qA h;obtain⟨N,Y,a3,a4⟩:=dh h;by_cases hh:l.head? =some 45
 ·have J:l=45::body l:=by
   cases l with
   |nil=>simp at hh
   |cons c t=>simp at hh;subst hh;rfl
  have H:l≠ [48]:=by intro e;rw[e] at hh;simp at hh
  have hn:bm (body l)≠0:=by
   intro e;rw[e] at h1;have h2:body l= [48]:=by rw[<-h1];decide+kernel
   exact nJ h H h2
  have e:toI l= -(bm (body l):Int):=by simp[toI,hh]
  rw[e,kH (by omega),show (-(bm (body l):Int)).natAbs=bm (body l) by omega,h1];exact J.symm
 ·have e:toI l=bm (body l):=by simp[toI,hh]
  rw[e,dX (by omega),show ((bm (body l):Int)).natAbs=bm (body l) by omega,h1,nH hh]
def ofI (n:Int):zdG:=⟨(Lib.itoa n).toArray⟩
theorem fY (n:Int):(ofI n).data.toList=Lib.itoa n:=by simp[ofI]
theorem JX (h:n.natAbs<BIG):vld (ofI n).data.toList=true:=by rw[fY];exact(FL n).2 h
theorem JY (n:Int):toI (ofI n).data.toList=n:=by rw[fY,FK]
end Yk
namespace Yk
theorem cj (B:Nat) (m:zdH) (k:Nat):val B (m.take (k+1))=val B (m.take k)+B^k*m.getD k 0:=by
 rw[zc0];by_cases H:k<m.length
 ·rw[zaa H,Option.toList_some,gV,zaE,zbP (by omega)];simp[List.getD,zaa H]
 ·rw[zad (by omega)];simp[List.getD,zad (show m.length<=k by omega)]
variable {B:Nat} {l:zdH}
theorem pV (h: ∀d∈l,d<B) (h2:l≠ []->B^(l.length - 1)<=val B l):xO B l:=by
 refine⟨h,λe=> ?_⟩;obtain⟨H,h1⟩:=zdl.1 e;rw[h1] at h2 h;have h3:=h2 (by simp);rw[gV] at h3;have h4:=kF (B:=B) (l:=H) (λd J=>h d (by simp[J]));simp at h3;omega
theorem BU (hB:2<=B) {n:Nat} (h:ae B n≠ []):B^((ae B n).length - 1)<=n:=by
 have h1:=mt (ai hB n ((ae B n).length - 1)).2 (by have:=zbo.2 h;omega);omega
variable {a b:zdH} {c k:Nat}
theorem FM (h:val B l+B^k*c=val B (a.take k)+val B (b.take k)) (H:l.length=k):
 val B (l++ [(c+a.getD k 0+b.getD k 0)%B])+B^(k+1)*((c+a.getD k 0+b.getD k 0) / B)=val B (a.take (k+1))+val B (b.take (k+1)):=by
 rw[gV,H,cj,cj,zaw];have e:B^k*((c+a.getD k 0+b.getD k 0)%B)+B^k*B*((c+a.getD k 0+b.getD k 0) / B)=B^k*c+B^k*a.getD k 0+B^k*b.getD k 0:=by
  rw[zaD,<-zao,<-zao,<-zao,zcR]
 omega
theorem ff (hB:2<=B) (n k:Nat):(ae B n).getD k 0<B:=by
 by_cases H:k<(ae B n).length
 ·rw[List.getD,zaa H];exact aK hB n _ (zas H)
 ·rw[List.getD,zad (by omega)];simp;omega
theorem JZ (hB:2<=B) {x y:Nat} (h:val B l+B^k*0=val B ((ae B x).take k)+val B ((ae B y).take k)) (J:l.length=k) (N: ∀d∈l,d<B)
 (h1:(ae B x).length<=k) (h2:(ae B y).length<=k) (h3:k<=(ae B x).length\/k<=(ae B y).length\/l.getLast? ≠some 0):l=ae B (x+y):=by
 rw[zaI h1,zaI h2,bi hB,bi hB,Nat.mul_zero,zaY] at h;rcases h3 with h3|h3|h3
 ·refine kG hB (pV N λH=> ?_) h;have:=BU hB (n:=x) (by intro e;rw[e] at h3;simp at h3;subst h3;exact H (zau J));rw[J,h,show k=(ae B x).length by omega];omega
 ·refine kG hB (pV N λH=> ?_) h;have:=BU hB (n:=y) (by intro e;rw[e] at h3;simp at h3;subst h3;exact H (zau J));rw[J,h,show k=(ae B y).length by omega];omega
 ·exact kG hB ⟨N,h3⟩ h
theorem Dp (hB:2<=B) (h:val B l+val B (b.take k)+0=val B (a.take k)+B^k*c) (H:l.length=k) (Y:c<=1) (J:a.getD k 0<B) (N:b.getD k 0<B)
 {d c':Nat} (h1:a.getD k 0+B*c'=d+c+b.getD k 0):
 val B (l++ [d])+val B (b.take (k+1))+0=val B (a.take (k+1))+B^(k+1)*c':=by
 rw[gV,H,cj,cj,zaw];have e:B^k*a.getD k 0+B^k*B*c'=B^k*d+B^k*c+B^k*b.getD k 0:=by
  rw[zaD,<-zao,<-zao,<-zao,h1]
 omega
end Yk
namespace Yk
theorem BV (B:Nat): ∀(l:zdH) (j d:Nat) (h:j<l.length),val B (l.set j d)+B^j*l[j]=val B l+B^j*d
 |a::t,0,d,_=>by simp[val];omega
 |a::t,j+1,d,h=>by
  have J:j<t.length:=by simpa using h
  have N:=BV B t j d J;simp only[zaR,val,List.getElem_cons_succ,zaw];have Y:B^j*B*t[j]=B*(B^j*t[j]):=by rw[zay (B^j) B,zaD]
  have e2:B^j*B*d=B*(B^j*d):=by rw[zay (B^j) B,zaD]
  have H:B*(val B (t.set j d)+B^j*t[j])=B*(val B t+B^j*d):=by rw[N]
  rw[zao,zao] at H;omega
theorem Dq (B:Nat) (l:zdH) (j:Nat) (h:j<l.length):B^j*l[j]<=val B l:=by
 rw[oU B l j h,zao];omega
variable {B X j c:Nat} {o:zdH}
theorem FN {ab:Nat} (h:j<o.length) (H:val B o+B^j*c=X):
 val B (o.set j ((o[j]+c+ab)%B))+B^(j+1)*((o[j]+c+ab) / B)=X+B^j*ab:=by
 have h1:=BV B o j ((o[j]+c+ab)%B) h;have e:B^j*((o[j]+c+ab)%B)+B^j*B*((o[j]+c+ab) / B)=B^j*o[j]+B^j*c+B^j*ab:=by
  rw[zaD,<-zao,<-zao,<-zao,zcR]
 rw[zaw];omega
theorem FO (hB:1<=B) (h:j<o.length) (J:val B o+B^j*c=X) (H:X<B^(j+1)):o[j]+c<B:=by
 have h1:=Dq B o j h;rw[zaw] at H;have h2:B^j*(o[j]+c)<B^j*B:=by rw[zao];omega
 exact Nat.lt_of_mul_lt_mul_left h2
theorem Dr {i lb:Nat} {a b:zdH} (J: ∀d∈a,d<B) (N: ∀d∈b,d<B) (H:b.length=lb) (hi:i<a.length):
 val B (a.take (i+1))*val B b<B^(i+lb+1):=by
 have h1:=kF (B:=B) (l:=a.take (i+1)) (λd h=>J d (zbd h));have h2:=kF (B:=B) N;rw[zaE,zbP (by omega)] at h1;rw[H] at h2;rw[show i+lb+1=(i+1)+lb by omega,zbv];exact zbN h1 h2
theorem mF (B n:Nat):val B (List.replicate n 0)=0:=by
 induction n with
 |zero=>rfl
 |succ n H=>simp[zcd,val,H]
end Yk
namespace Yk
def DivInv (B x y j R:Nat) (q:zdH):Prop:=
 ∃H:zdH,q=List.replicate j 0++H/\H.length+j=(ae B x).length/\(∀d∈H,d<B)/\val B H*y+R=val B ((ae B x).drop j)/\R<y
variable {B x y:Nat}
theorem DivInv.start (H:0<y):DivInv B x y (ae B x).length 0 (List.replicate (ae B x).length 0):=
 ⟨[],by simp,by simp,by simp,by rw[zcK (za0 _)];simp[val],H⟩
variable {j R d:Nat} {q:zdH}
theorem DivInv.step {R2 t:Nat} (h:DivInv B x y (j+1) R q) (N:j<(ae B x).length) (J:(ae B x)[j]=d) (h1:R2+t*y=d+B*R) (h2:R2<y) (h3:t<B):
 DivInv B x y j R2 (q.set j t):=by
 obtain⟨qs,rfl,hl,hq,Y,hR⟩:=h;refine⟨t::qs, ?_,by simp;omega, ?_, ?_,h2⟩
 ·rw[List.replicate_succ',za5,List.set_append_right _ _ (by simp)];simp
 ·intro z H;rcases zai.1 H with rfl|H
  ·exact h3
  ·exact hq z H
 ·rw[zaH N,val,val,J,<-Y,zao,zaG,zaD];omega
theorem DivInv.done (hB:2<=B) (h:DivInv B x y 0 R q):val B q=x / y/\R=x%y:=by
 obtain⟨Y,rfl,N,hq,J,H⟩:=h;simp only[List.replicate_zero,zaM,zaZ] at*
 rw[bi hB] at J;rw[<-J];constructor
 ·rw[zay,zb3,zcT _ _ (by omega),zbC H,za7]
 ·rw[zay,zb3,zcS,zbG H]
theorem DivInv.digits (hB:2<=B) (h:DivInv B x y j R q): ∀d∈q,d<B:=by
 obtain⟨qs,rfl,N,hq,Y,J⟩:=h;intro d H;rcases za8.1 H with h|h
 ·have:=(List.mem_replicate.1 h).2;omega
 ·exact hq d h
theorem DivInv.length (h:DivInv B x y j R q):q.length=(ae B x).length:=by
 obtain⟨J,rfl,H,_⟩:=h;simp;omega
theorem DivInv.zero (h:DivInv B x y (j+1) R q) (H:j<q.length):q[j]=0:=by
 obtain⟨N,rfl,J,_⟩:=h;rw[List.getElem_append_left (by simp)];simp
theorem Dt (hB:2<=B) (H:d<B):val B ([d]++ae B R)=d+B*R:=by
 simp[val,bi hB]
theorem aD (hB:2<=B) (h:x<=y):(ae B x).length<=(ae B y).length:=by
 rw[ai hB];exact zaS h ((ai hB y _).1 (za0 _))
theorem nK (hB:2<=B) (J:d<B) (H:R<y):(ae B (d+B*R)).length<=(ae B y).length+1:=by
 rw[ai hB,zaw];have h1:=(ai hB y _).1 (za0 _);have h2:B*(R+1)<=B*B^(ae B y).length:=zb5 B (by omega);rw[zao] at h2;rw[zay (B^_) B];omega
end Yk
namespace Yk
open Go
theorem nL (l m:List UInt8):bm (l++m)=bm m+10^m.length*bm l:=by
 unfold bm;rw[zcV,zb8,alj,zaB,zc1]
theorem wg {c:UInt8} (h:dig c=true):Lib.digitVal c=some (dv c):=by
 have h2:=(eE c).1 h;unfold Lib.digitVal dv
 first
  |(simp only[];rw[if_pos (by simp;omega)])
  |(split<;>simp_all)
theorem kI: ∀(l:List UInt8) (H:Nat),(∀c∈l,dig c=true)->Lib.decFrom H l=some (H*10^l.length+bm l)
 | [],H,_=>by simp[Lib.decFrom,bm,val]
 |c::r,H,h=>by
  have J:=wg (h c (by simp));rw[Lib.decFrom,J];simp only;rw[kI r _ (λx N=>h x (by simp[N])),show c::r= [c]++r from rfl,nL,za3,za6,zbv,Nat.pow_one,zaG];have:bm [c]=dv c:=by simp[bm,val]
  rw[this,zay (dv c),zaD]
  congr 1;omega
variable {l:List UInt8}
theorem xS (h0:l≠ []) (h: ∀c∈l,dig c=true):Lib.atoi l=some (bm l:Int):=by
 cases l with
 |nil=>exact absurd rfl h0
 |cons c r=>
  have N:=(eE c).1 (h c (by simp));have J:(c==45)=false:=by
   rw[zdw];intro e;subst e;exact absurd N (by decide)
  have H:(c==43)=false:=by
   rw[zdw];intro e;subst e;exact absurd N (by decide)
  rw[Lib.atoi,J,H];simp only[zbn,if_false];unfold Lib.decNat;rw[if_neg (by simp),kI _ 0 h];simp
variable {k:Nat}
theorem zW {L:zdH} {T:Nat} (H:k<=l.length) (h:val 10000 L+10000^L.length*bm (l.take k)=T):
 val 10000 (L++ [bm ((l.take k).drop (k - 4))])+10000^(L++ [bm ((l.take k).drop (k - 4))]).length*bm (l.take (k - 4))=T:=by
 rw[gV,za3,za6,zaw];have e:l.take k=l.take (k - 4)++(l.take k).drop (k - 4):=by
  conv=>lhs;rw[<-zdm (k - 4) (l.take k)]
  rw[List.take_take,zbP (by omega)]
 have e2:bm (l.take k)=bm ((l.take k).drop (k - 4))+10000*bm (l.take (k - 4)):=by
  conv=>lhs;rw[e]
  rw[nL];by_cases h4:4<=k
  ·have:((l.take k).drop (k - 4)).length=4:=by rw[zbQ,zaE];omega
   rw[this]
  ·have:k - 4=0:=by omega
   rw[this,zbu];simp[bm,val]
 rw[e2,zao] at h;rw[zaD];omega
theorem FP (N:k<=l.length) (J: ∀c∈l,dig c=true):bm ((l.take k).drop (k - 4))<10000:=by
 have h1:=xR (l:=(l.take k).drop (k - 4)) (λc H=>J c (zbd (zbD H)));have h2:((l.take k).drop (k - 4)).length<=4:=by rw[zbQ,zaE];omega
 have h3:10^((l.take k).drop (k - 4)).length<=10^4:=zb7 (by decide) h2;omega
end Yk
namespace Yk
def aO (B:Nat) (d:Nat->Int):Nat->Int
 |0=>0
 |k+1=>aO B d k+((B^k:Nat):Int)*d k
variable {B k:Nat} {d:Nat->Int} {l:zdH}
theorem Dv {r:Nat} {c c':Int} (h:(val B l:Int)+((B^k:Nat):Int)*c=aO B d k) (H:l.length=k) (h1:d k+c=r+B*c'):
 (val B (l++ [r]):Int)+((B^(k+1):Nat):Int)*c'=aO B d (k+1):=by
 rw[gV,H,aO,zaw,zcW,zb9,zb9];have e:((B^k:Nat):Int)*(r+B*c')=((B^k:Nat):Int)*(d k+c):=by rw[h1]
 rw[zc8,zc8] at e;rw[Int.mul_assoc];omega
theorem FQ (h:(val B l:Int)+((B^k:Nat):Int)*0=aO B d k):(val B l:Int)=aO B d k:=by omega
theorem rx (h:(val B l:Int)+((B^k:Nat):Int)*(-1)=aO B d k) (J:l.length=k) (H: ∀z∈l,z<B) (h0:0<=aO B d k):False:=by
 have:=kF H;rw[J] at this;omega
theorem oX {n:Nat} (H: ∀i,n<=i->d i=0): ∀k,n<=k->aO B d k=aO B d n:=by
 intro k N
 induction k with
 |zero=>have:n=0:=by omega
        subst this;rfl
 |succ k J=>
  by_cases e:n=k+1
  ·subst e;rfl
  ·rw[aO,J (by omega),H k (by omega)];simp
theorem xT (B:Nat) (l:zdH) (k:Nat):aO B (λi=>(l.getD i 0:Int)) k=(val B (l.take k):Int):=by
 induction k with
 |zero=>simp[aO,val]
 |succ k H=>rw[aO,H,cj,zcW,zb9]
theorem ry (B:Nat) (f g:Nat->Int) (k:Nat):aO B (λi=>f i+g i) k=aO B f k+aO B g k:=by
 induction k with
 |zero=>rfl
 |succ k H=>rw[aO,H,aO,aO,zc8];omega
theorem aJn (B:Nat) (f g:Nat->Int) (k:Nat):aO B (λi=>f i - g i) k=aO B f k - aO B g k:=by
 induction k with
 |zero=>rfl
 |succ k H=>rw[aO,H,aO,aO,Int.mul_sub];omega
theorem rA (B:Nat) (f:Nat->Int) (n:Int) (k:Nat):aO B (λi=>f i*n) k=aO B f k*n:=by
 induction k with
 |zero=>simp[aO]
 |succ k H=>rw[aO,H,aO,Int.add_mul,Int.mul_assoc]
end Yk
namespace Yk
def k9 (B x:Nat) (a:Nat) (p:Nat×Nat):Nat:=a*B+x*p.2
theorem Dw {B x:Nat} (hB:1<=B) (l:List (Nat×Nat)) (h: ∀p∈l,p.2<B):l.foldl (k9 B x) 0+x<=x*B^l.length:=by
 induction N:l.length generalizing l with
 |zero=>rw[zau N];simp
 |succ k Y=>
  obtain⟨J,H,rfl⟩: ∃J H,l=J++ [H]:=⟨l.dropLast,l.getLast (by intro e;rw[e] at N;simp at N),(zcX _).symm⟩;have h1:=Y J (λp hp=>h p (by simp[hp])) (by simp at N;omega);have h2:=h H (by simp);rw[zbz,zbe,zcu,k9,zaw];generalize J.foldl (k9 B x) 0=f at*
  have h3:(f+x)*B<=x*B^k*B:=zbl B h1;have h4:x*(H.2+1)<=x*B:=zb5 x h2;rw[zao] at h4;rw[zaG] at h3;rw[<-zaD];omega
end Yk
namespace Yk
open Go
abbrev SE:=ByteArray×Int
def chkI (n:Int):SE:=if n.natAbs<BIG then(ofI n,0) else(ByteArray.empty,30)
def vS (s:zdG):Bool:=vld s.data.toList
def nS (s:zdG):Int:=toI s.data.toList
def jb (a b:zdG):SE:=if vS a&&vS b then chkI (nS a+nS b) else(ByteArray.empty,30)
def fA (a b:zdG):SE:=if vS a&&vS b then chkI (nS a - nS b) else(ByteArray.empty,30)
def bM (a b:zdG):SE:=if vS a&&vS b then chkI (nS a*nS b) else(ByteArray.empty,30)
def dY (a b:zdG):ByteArray×ByteArray×Int:=if vS a&&vS b&&decide (nS b≠0) then(ofI (nS a / nS b),ofI (nS a%nS b),0) else(ByteArray.empty,ByteArray.empty,30)
def cM (a b:zdG):SE:=if vS a&&vS b then(ofI (Int.gcd (nS a) (nS b)),0) else(ByteArray.empty,30)
def VQ (x y:Int):Int:=if x<y then -1 else if y<x then 1 else 0
def dw (a b:zdG):Int:=if vS a&&vS b then VQ (nS a) (nS b) else 0
def sgn (neg:Bool) (x:Nat):Int:=if neg then -(x:Int) else x
theorem cz (neg:Bool) (x:Nat):(sgn neg x).natAbs=x:=by unfold sgn;split<;>omega
theorem cD (s:zdG):nS s=sgn (bf s.data.toList) (nS s).natAbs:=by
 unfold nS sgn bf;rw[anF];unfold toI;by_cases h:s.data.toList.head? =some 45<;>simp[h]
variable {s:zdG}
theorem br (h:vS s=true):(nS s).natAbs<BIG:=Nr h
variable {n:Int}
theorem gj (h:n.natAbs<BIG):vS (ofI n)=true:=JX h
theorem aI (n:Int):nS (ofI n)=n:=JY n
theorem jc (h:vS s=true):ofI (nS s)=s:=gT (by rw[fY];exact ru h)
theorem aM {x:Nat} (h:x<BIG):(ae 10 x).length<=200:=(ai (by decide) x 200).2 h
theorem dp (h:vS s=true):s.size<=201:=by
 have h1:=(dh h).2.1;unfold body at h1;have h2:=bj s;split at h1
 ·rw[zcY] at h1;omega
 ·omega
theorem kJ:0<BIG:=by unfold BIG;decide+kernel
theorem zX:1<BIG:=by unfold BIG;decide+kernel
theorem dZ (x:Nat) (H:Bool) (y:Nat):((x:Int) / sgn H y=sgn H (x / y))/\((x:Int)%sgn H y=((x%y:Nat):Int)):=by
 cases H
 ·simp[sgn]
 ·simp[sgn,zcZ,zd0]
theorem cH {x y:Nat} (hy:0<y) (H:Bool):((-(x:Int)) / sgn H y=sgn (!H) (if x%y=0 then x / y else x / y+1))/\((-(x:Int))%sgn H y=((if x%y=0 then 0 else y - x%y:Nat):Int)):=by
 have e0:=zar x hy;have a0:=zcM x y;have J: ∀q r:Int, -(x:Int)=(y:Int)*q+r->0<=r->r<y->(-(x:Int)) / (y:Int)=q/\(-(x:Int))%(y:Int)=r:=by
  intro q r h h0 h1;have Y:(-(x:Int)) / (y:Int)=q:=by
   rw[h,Int.add_comm,Int.add_mul_ediv_left _ _ (by omega),Int.ediv_eq_zero_of_lt h0 h1];omega
  refine⟨Y, ?_⟩;rw[h,Int.add_comm,Int.add_mul_emod_self_left,Int.emod_eq_of_lt h0 h1]
 by_cases N:x%y=0
 ·have h1:=J (-(x / y:Nat)) 0 (by
   have e:(x:Int)=(y:Int)*((x / y:Nat):Int):=by rw[<-zb9];omega
   rw[zbM];omega) (by omega) (by omega)
  cases H
  ·simp only[sgn,N,if_true,zbg];exact⟨h1.1,h1.2⟩
  ·simp only[sgn,N,if_true,zbh,zcZ,zd0,h1.1,h1.2];simp
 ·have h1:=J (-((x / y+1:Nat):Int)) ((y - x%y:Nat):Int) (by
   have e:(x:Int)=(y:Int)*((x / y:Nat):Int)+((x%y:Nat):Int):=by rw[<-zb9];omega
   rw[zbM,zcW,zc8];omega) (by omega) (by omega)
  cases H
  ·simp only[sgn,N,if_false,if_true,zbg];exact⟨h1.1,h1.2⟩
  ·simp only[sgn,N,if_false,if_true,zbh,zcZ,zd0,h1.1,h1.2];simp
theorem iM (x y:Nat):VQ (x:Int) (y:Int)=dB x y:=by unfold VQ dB;simp only[Int.ofNat_lt]
theorem pW (x y:Nat):VQ (-(x:Int)) (-(y:Int))=dB y x:=by
 unfold VQ dB;by_cases h:x<y
 ·rw[if_neg (by omega),if_pos (by omega),if_neg (by omega),if_pos h]
 ·by_cases h2:y<x
  ·rw[if_pos (by omega),if_pos h2]
  ·rw[if_neg (by omega),if_neg (by omega),if_neg h2,if_neg h]
abbrev RS:=ByteArray×ByteArray
def noR:RS:=(ByteArray.empty,ByteArray.empty)
def rV (a:RS):Bool:=vS a.1&&vS a.2&&decide (0<nS a.2)&&decide (Int.gcd (nS a.1) (nS a.2)=1)
def qV (a:RS):Rat:=Rat.divInt (nS a.1) (nS a.2)
def rT (q:Rat):RS:=(ofI q.num,ofI q.den)
def aq (n:Int):Bool:=decide (n.natAbs<BIG)
def rMk (n d:Int):RS×Int:=if aq n&&aq d&&decide (d≠0) then(rT (Rat.divInt n d),0) else(noR,40)
def gX (n d:zdG):RS×Int:=if vS n&&vS d&&decide (nS d≠0) then(rT (Rat.divInt (nS n) (nS d)),0) else(noR,40)
def fZ (a b:RS):RS×Int:=if rV a&&rV b&&aq (nS a.1*nS b.2)&&aq (nS b.1*nS a.2) then rMk (nS a.1*nS b.2+nS b.1*nS a.2) (nS a.2*nS b.2) else(noR,40)
def iF (a b:RS):RS×Int:=if rV a&&rV b&&aq (nS a.1*nS b.2)&&aq (nS b.1*nS a.2) then rMk (nS a.1*nS b.2 - nS b.1*nS a.2) (nS a.2*nS b.2) else(noR,40)
def ale (a b:RS):RS×Int:=if rV a&&rV b then rMk (nS a.1*nS b.1) (nS a.2*nS b.2) else(noR,40)
def cA (a b:RS):RS×Int:=if rV a&&rV b then rMk (nS a.1*nS b.2) (nS a.2*nS b.1) else(noR,40)
def zY (x y:Rat):Int:=if x<y then -1 else if y<x then 1 else 0
def b9 (a b:RS):Int:=if rV a&&rV b then zY (qV a) (qV b) else 0
def gk (a:RS):zdG:=if rV a then(if nS a.2=1 then a.1 else⟨(a.1.data.toList++ [47]++a.2.data.toList).toArray⟩) else ByteArray.empty
def Yd (l:List UInt8):List UInt8×List UInt8:=if l.contains 47 then(l.takeWhile (· !=47),(l.dropWhile (· !=47)).tail) else(l, [49])
def rOf (s:zdG):RS:=(⟨(Yd s.data.toList).1.toArray⟩,⟨(Yd s.data.toList).2.toArray⟩)
def DR (s:zdG):RS×Int:=if rV (rOf s)&&decide (gk (rOf s)=s) then(rOf s,0) else(noR,40)
theorem V1:aq n=true↔n.natAbs<BIG:=by simp[aq]
variable {a:RS}
theorem ay (h:rV a=true):vS a.1=true/\vS a.2=true/\0<nS a.2/\Int.gcd (nS a.1) (nS a.2)=1:=by
 simp only[rV,za2,zdt] at h;exact⟨h.1.1.1,h.1.1.2,h.1.2,h.2⟩
variable {d:Int}
theorem kK (H:0<d):(Rat.divInt n d).num=n / Int.gcd n d/\((Rat.divInt n d).den:Int)=d / Int.gcd n d:=by
 rw[Rat.num_divInt,Rat.den_divInt,if_neg (by omega),Int.sign_eq_one_of_pos H,Int.one_mul,Int.gcd_comm d n];refine⟨rfl, ?_⟩;rw[Int.natCast_ediv]
 congr 1
 omega
theorem FS (h:rV a=true):(qV a).num=nS a.1/\((qV a).den:Int)=nS a.2:=by
 obtain⟨_,_,h3,h4⟩:=ay h;obtain⟨H,e2⟩:=kK (n:=nS a.1) h3;unfold qV;rw[H,e2,h4];simp
theorem BW (q:Rat):qV (rT q)=q:=by
 unfold qV rT;rw[aI,aI];exact Rat.num_divInt_den q
variable {q:Rat}
theorem MQ (h1:q.num.natAbs<BIG) (h2:q.den<BIG):rV (rT q)=true:=by
 have h3:=q.den_pos;have h4:=q.reduced;unfold rV rT;simp only[aI,za2,zdt];exact⟨⟨⟨gj h1,gj (by omega)⟩,by omega⟩,by rw[Int.gcd];exact h4⟩
theorem uP (n d:Int) (H:d≠0):(Rat.divInt n d).num.natAbs<=n.natAbs/\(Rat.divInt n d).den<=d.natAbs:=by
 rw[Rat.num_divInt,Rat.den_divInt,if_neg H];have hg:0<Int.gcd d n:=Int.gcd_pos_of_ne_zero_left _ H;refine⟨?_,zaN _ _⟩;have J:((Int.gcd d n:Nat):Int) ∣ d.sign*n:=Int.dvd_trans (Int.gcd_dvd_right d n) (Int.dvd_mul_left _ _);rw[Int.natAbs_ediv_of_dvd J,zbZ,zaF,Int.natAbs_sign_of_ne_zero H,Nat.one_mul];exact zaN _ _
theorem MR (J:aq n=true) (H:aq d=true) (h0:d≠0):rV (rT (Rat.divInt n d))=true:=by
 have h:=uP n d h0;exact MQ (zaS h.1 (V1.1 J)) (zaS h.2 (V1.1 H))
theorem kL (J:aq n=true) (H:aq d=true) (h0:d≠0):rMk n d=(rT (Rat.divInt n d),0):=by
 unfold rMk;rw[if_pos (by simp[J,H,h0])]
theorem Nt (h: ¬(aq n=true/\aq d=true/\d≠0)):rMk n d=(noR,40):=by
 unfold rMk;rw[if_neg];intro h2;simp only[za2,zdt] at h2;exact h ⟨h2.1.1,h2.1.2,h2.2⟩
theorem FT (n d:zdG):gX n d=if vS n&&vS d then rMk (nS n) (nS d) else(noR,40):=by
 unfold gX rMk;by_cases h:vS n=true/\vS d=true
 ·obtain⟨h1,h2⟩:=h;have H:aq (nS n)=true:=V1.2 (br h1);have e2:aq (nS d)=true:=V1.2 (br h2);simp[h1,h2,H,e2]
 ·have:(vS n&&vS d)=false:=by
   rw[Bool.and_eq_false_iff];cases H:vS n<;>cases e2:vS d<;>simp_all
  simp[this]
theorem xU (n:Int):aq n=vS (ofI n):=by
 rw[zax,V1];refine⟨gj,λh=> ?_⟩;have:=br h;rwa[aI] at this
theorem gM (n d:Int):gX (ofI n) (ofI d)=rMk n d:=by
 rw[FT];unfold rMk;rw[<-xU,<-xU,aI,aI];cases aq n<;>cases aq d<;>simp
theorem FU:ofI 0=⟨#[48]⟩:=by
 apply gT;rw[fY,dX (by decide),aL];simp
theorem J0:ofI 1=⟨#[49]⟩:=by
 apply gT;rw[fY,dX (by decide),aL];simp[gW (B:=10) (d:=1) (by decide) (by decide) (by decide)]
theorem xV (h:vS s=true):nS s=0↔s=⟨#[48]⟩:=by
 rw[<-FU];constructor
 ·intro e;rw[<-jc h,e]
 ·intro e;rw[e,aI]
theorem gY (h:vS s=true):nS s=1↔s=⟨#[49]⟩:=by
 rw[<-J0];constructor
 ·intro e;rw[<-jc h,e]
 ·intro e;rw[e,aI]
variable {m c:Int}
theorem pX (J:0<d) (H:0<c):zY (Rat.divInt n d) (Rat.divInt m c)=VQ (n*c) (m*d):=by
 have e0:(0:Rat)<(d:Rat):=by exact_mod_cast J
 have a0:(0:Rat)<(c:Rat):=by exact_mod_cast H
 have key: ∀(x y z t:Int),0<t->0<y->(Rat.divInt x y<Rat.divInt z t↔x*t<z*y):=by
  intro x y z t ht hy;have Y:(0:Rat)<(y:Rat):=by exact_mod_cast hy
  have N:(0:Rat)<(t:Rat):=by exact_mod_cast ht
  rw[Rat.divInt_eq_div,Rat.divInt_eq_div,Rat.div_lt_iff Y,<-Rat.intCast_lt_intCast,Rat.intCast_mul,Rat.intCast_mul];have e:(z:Rat) / (t:Rat)*(y:Rat)=(z:Rat)*(y:Rat) / (t:Rat):=by grind
  rw[e,Rat.lt_div_iff N]
 unfold zY VQ;simp only[key n d m c H J,key m c n d J H]
theorem Dy (Y:0<d) (J:0<c) (h:n / d≠m / c):VQ (n*c) (m*d)=VQ (n / d) (m / c):=by
 have e1:=zcv n d;have e2:=zcv m c;have a1:=zcl n (show d≠0 by omega);have a2:=zcO n Y;have b1:=zcl m (show c≠0 by omega);have b2:=zcO m J;generalize n / d=q at*
 generalize m / c=p at*
 generalize n%d=r at*
 generalize m%c=s at*
 have key: ∀(n d m c q p r s:Int),0<d->0<c->d*q+r=n->c*p+s=m->r<d->0<=s->q<p->n*c<m*d:=by
  intro n d m c q p r s Y J e1 e2 h1 h2 h;have h3:n<d*(q+1):=by rw[zc8];omega
  have h4:c*p<=m:=by omega
  have h5:n*c<d*(q+1)*c:=Int.mul_lt_mul_of_pos_right h3 J;have h6:c*p*d<=m*d:=Int.mul_le_mul_of_nonneg_right h4 (by omega);have h7:c*d*(q+1)<=c*d*p:=Int.mul_le_mul_of_nonneg_left (by omega) (Int.mul_nonneg (by omega) (by omega));have e3:d*(q+1)*c=c*d*(q+1):=by grind
  have e4:c*p*d=c*d*p:=by grind
  omega
 unfold VQ;by_cases H:q<p
 ·rw[if_pos H,if_pos (key n d m c q p r s Y J e1 e2 a2 b1 H)]
 ·have N:p<q:=by omega
  have:=key m c n d p q s r J Y e2 e1 b2 a1 N;rw[if_neg H,if_pos N,if_neg (by omega),if_pos (by omega)]
theorem FV (N:0<d) (J:0<c) (h:n / d=m / c):VQ (n*c) (m*d)=VQ (n%d*c) (m%c*d):=by
 have H:=zcv n d;have e2:=zcv m c;rw[h] at H;generalize m / c=p at*
 generalize n%d=r at*
 generalize m%c=s at*
 have e:n*c - m*d=r*c - s*d:=by rw[<-H,<-e2];grind
 unfold VQ;have:(n*c<m*d)=(r*c<s*d):=by rw[eq_iff_iff];omega
 have h2:(m*d<n*c)=(s*d<r*c):=by rw[eq_iff_iff];omega
 simp only[this,h2]
theorem aBS (x y:Int):VQ x y= - VQ y x:=by unfold VQ;split<;>split<;>omega
theorem Dz (x:Int):VQ x x=0:=by unfold VQ;simp
theorem FX (r c s d:Int):VQ (r*c) (s*d)= - VQ (d*s) (c*r):=by rw[aBS,Int.mul_comm s d,Int.mul_comm r c]
theorem zZ {s:Int} (c:Int) (J:0<s) (H:0<d):VQ (0*c) (s*d)= -1:=by
 have:=zaU J H;unfold VQ;rw[zcm,if_pos this]
theorem aAJ {r:Int} (d:Int) (J:0<r) (H:0<c):VQ (r*c) (0*d)=1:=by
 have:=zaU J H;unfold VQ;rw[zcm,if_neg (by omega),if_pos this]
theorem J1 {x y:Rat}:zY x y<=0↔x<=y:=by
 unfold zY;by_cases h1:x<y
 ·simp[h1];grind
 ·by_cases h2:y<x
  ·simp[h1,h2];grind
  ·simp[h1,h2];grind
theorem kM (h:rV a=true):qV a=0↔nS a.1=0:=by
 rw[<-Rat.num_eq_zero,(FS h).1]
def Gives (x:RS×Int) (q:Rat):Prop:=x=(rT q,0)/\rV (rT q)=true
variable {x:RS×Int}
theorem Gives.fst (h:Gives x q):x.1=rT q:=by rw[h.1]
theorem Gives.snd (h:Gives x q):x.2=0:=by rw[h.1]
theorem Gives.valid (h:Gives x q):rV x.1=true:=by rw[h.1];exact h.2
theorem Gives.val (h:Gives x q):qV x.1=q:=by rw[h.1];exact BW q
theorem uQ (n d:Int):(aq n=true/\aq d=true/\d≠0/\Gives (rMk n d) (Rat.divInt n d))\/(¬(aq n=true/\aq d=true/\d≠0)/\rMk n d=(noR,40)):=by
 by_cases h:aq n=true/\aq d=true/\d≠0
 ·exact .inl ⟨h.1,h.2.1,h.2.2,kL h.1 h.2.1 h.2.2,MR h.1 h.2.1 h.2.2⟩
 ·exact .inr ⟨h,Nt h⟩
theorem lE (h:(rMk n d).2=0):Gives (rMk n d) (Rat.divInt n d)/\d≠0:=by
 rcases uQ n d with h2|⟨_,h2⟩
 ·exact⟨h2.2.2.2,h2.2.2.1⟩
 ·rw[h2] at h;simp at h
variable {b:RS}
theorem jP (h:(cA a b).2=0):rV a=true/\rV b=true/\qV b≠0/\Gives (cA a b) (qV a / qV b):=by
 unfold cA at h ⊢;split at h
 ·rename_i H;simp only[za2] at H;have hg:=lE h;have J:nS b.1≠0:=by intro e;rw[e] at hg;simp at hg
  refine⟨H.1,H.2,λe=>J ((kM H.2).1 e), ?_⟩;rw[if_pos (by simp[H])];have e:Rat.divInt (nS a.1*nS b.2) (nS a.2*nS b.1)=qV a / qV b:=by
   rw[Rat.div_def];unfold qV;rw[Rat.inv_divInt,Rat.divInt_mul_divInt]
  have hg:=hg.1;rwa[e] at hg
 ·simp at h
variable {l:List UInt8}
theorem ZO (h:vld l=true):l.contains 47=false:=by
 rw[Bool.eq_false_iff];intro H;rw[List.contains_iff_mem] at H;have J:(47:UInt8)∈body l:=by
  unfold body;split
  ·rename_i hh;cases l with
   |nil=>cases H
   |cons a t=>
    simp at hh;subst hh;rcases zai.1 H with e|e
    ·exact absurd e (by decide)
    ·exact e
  ·exact H
 have:=(dh h).2.2.1 47 J;exact absurd this (by decide)
theorem Yr {m:List UInt8} (h:l.contains 47=false):(l++ [47]++m).takeWhile (· !=47)=l/\(l++ [47]++m).dropWhile (· !=47)=47::m:=by
 induction l with
 |nil=>simp
 |cons a t J=>
  have h1:a≠47:=by intro e;subst e;simp at h
  have h2:t.contains 47=false:=by simp at h ⊢;exact h.2
  obtain⟨i1,H⟩:=J h2;have h3:(a !=47)=true:=by simp[h1]
  simp only[zaO,List.takeWhile_cons,List.dropWhile_cons,h3,if_true];simp only[za5,zaO,zaM] at i1 H ⊢;exact⟨by rw[i1],H⟩
theorem YK {m:List UInt8} (h:l.contains 47=false):Yd (l++ [47]++m)=(l,m):=by
 unfold Yd;obtain⟨h1,h2⟩:=Yr (m:=m) h;rw[if_pos (by simp),h1,h2];rfl
theorem YY (h:l.contains 47=false):Yd l=(l, [49]):=by
 unfold Yd;rw[if_neg (by rw[h];simp)]
theorem z6 (h:rV a=true) (h1:a.2=⟨#[49]⟩):gk a=a.1:=by
 unfold gk;rw[if_pos h,if_pos ((gY (ay h).2.1).2 h1)]
theorem z7 (h:rV a=true) (h1:a.2≠⟨#[49]⟩):gk a=⟨(a.1.data.toList++ [47]++a.2.data.toList).toArray⟩:=by
 unfold gk;rw[if_pos h,if_neg (λe=>h1 ((gY (ay h).2.1).1 e))]
theorem DA (h:rV a=false):gk a=ByteArray.empty:=by
 unfold gk;rw[if_neg (by rw[h];simp)]
theorem aaA (s:zdG):(⟨s.data.toList.toArray⟩:zdG)=s:=gT (by simp)
theorem Zx (h:rV a=true):rOf (gk a)=a:=by
 obtain⟨h1,h2,_,_⟩:=ay h;have H:=ZO h1;by_cases e:a.2=⟨#[49]⟩
 ·rw[z6 h e];unfold rOf;rw[YY H];exact zc7 (aaA _) e.symm
 ·rw[z7 h e];unfold rOf;simp only[List.toList_toArray];rw[YK H]
theorem abw (h:rV a=true):gk a≠ByteArray.empty:=by
 obtain⟨h1,h2,_,_⟩:=ay h;intro e;have:=congrArg (λs=>s.data.toList.length) e;by_cases H:a.2=⟨#[49]⟩
 ·rw[z6 h H] at this;have h3:=(dh h1).1;simp only[bj] at this;have h4:a.1.data.toList= []:=zau (by rw[bj];exact this);rw[h4] at h3;exact h3 rfl
 ·rw[z7 h H] at this;simp at this
theorem ayd (h:rV a=true):DR (gk a)=(a,0):=by
 unfold DR;rw[Zx h,h];simp
theorem abk:DR ByteArray.empty=(noR,40):=by
 unfold DR;rw[if_neg];intro h;simp only[za2,zdt] at h;exact abw h.1 h.2
theorem azo (h:(DR s).2=0):DR s=(rOf s,0)/\rV (rOf s)=true/\gk (rOf s)=s:=by
 unfold DR at h ⊢;split at h
 ·rename_i H;rw[if_pos H];simp only[za2,zdt] at H;exact⟨rfl,H⟩
 ·simp at h
variable {k:Nat}
theorem jp (h:n.natAbs<10^k) (H:k<=200):aq n=true:=
 V1.2 (zam h (zb7 (by decide) H))
variable {i j:Nat}
theorem bD {a b:Nat} (H:a<10^i) (J:b<10^j):a*b<10^(i+j):=by
 rw[zbv];exact zbN H J
theorem bY {a b:Int} (H:a.natAbs<10^i) (J:b.natAbs<10^j) (h:i+j<=200):aq (a*b)=true:=
 jp (k:=i+j) (by rw[zaF];exact bD H J) h
theorem atT {a b:Int} (H:a.natAbs<10^k) (J:b.natAbs<10^k):(a+b).natAbs<10^(k+1)/\(a - b).natAbs<10^(k+1):=by
 rw[zaw];omega
theorem J2 (H:rV a=true) (J:rV b=true) (h1:aq (nS a.1*nS b.2)=true) (h2:aq (nS b.1*nS a.2)=true) (h3:aq (nS a.1*nS b.2+nS b.1*nS a.2)=true) (h4:aq (nS a.2*nS b.2)=true):(fZ a b).2=0:=by
 unfold fZ;rw[if_pos (by simp[H,J,h1,h2]),kL h3 h4 (by have h5:=zaU (ay H).2.2.1 (ay J).2.2.1;omega)]
theorem J3 (H:rV a=true) (J:rV b=true) (h1:aq (nS a.1*nS b.2)=true) (h2:aq (nS b.1*nS a.2)=true) (h3:aq (nS a.1*nS b.2 - nS b.1*nS a.2)=true) (h4:aq (nS a.2*nS b.2)=true):(iF a b).2=0:=by
 unfold iF;rw[if_pos (by simp[H,J,h1,h2]),kL h3 h4 (by have h5:=zaU (ay H).2.2.1 (ay J).2.2.1;omega)]
theorem J4 (H:rV a=true) (J:rV b=true) (h3:aq (nS a.1*nS b.1)=true) (h4:aq (nS a.2*nS b.2)=true):(ale a b).2=0:=by
 unfold ale;rw[if_pos (by simp[H,J]),kL h3 h4 (by have h5:=zaU (ay H).2.2.1 (ay J).2.2.1;omega)]
theorem J5 (H:rV a=true) (J:rV b=true) (h0:nS b.1≠0) (h3:aq (nS a.1*nS b.2)=true) (h4:aq (nS a.2*nS b.1)=true):(cA a b).2=0:=by
 unfold cA;rw[if_pos (by simp[H,J]),kL h3 h4 (by have h5:=(ay H).2.2.1;exact Int.mul_ne_zero (by omega) h0)]
def Few (k:Nat) (q:Rat):Prop:=q.num.natAbs<10^k/\q.den<10^k
def FewR (k:Nat) (a:RS):Prop:=rV a=true/\(nS a.1).natAbs<10^k/\(nS a.2).natAbs<10^k
theorem Few.rT (h:Few k q) (J:k<=200):FewR k (rT q):=by
 have H:(10:Nat)^k<=BIG:=zb7 (by decide) J;refine⟨MQ (zam h.1 H) (zam h.2 H), ?_, ?_⟩
 ·show (nS (ofI q.num)).natAbs<_;rw[aI];exact h.1
 ·show (nS (ofI q.den)).natAbs<_;rw[aI];exact h.2
theorem Few.divInt (H:d≠0) (h1:n.natAbs<10^k) (h2:d.natAbs<10^k):Few k (Rat.divInt n d):=by
 have:=uP n d H;exact⟨by omega,by omega⟩
section
variable {a b:RS} {i j:Nat}
theorem FewR.add (H:FewR i a) (J:FewR j b) (h:i+j<200):(fZ a b).2=0:=by
 have h1:=bY H.2.1 J.2.2 (by omega);have h2:=bY J.2.1 H.2.2 (by omega);have h3:=bY H.2.2 J.2.2 (by omega);refine J2 H.1 J.1 h1 h2 (jp (k:=i+j+1) (atT (k:=i+j) ?_ ?_).1 (by omega)) h3
 ·rw[zaF];exact bD H.2.1 J.2.2
 ·rw[zaF,zb3];exact bD J.2.1 H.2.2
theorem FewR.sub (H:FewR i a) (J:FewR j b) (h:i+j<200):(iF a b).2=0:=by
 have h1:=bY H.2.1 J.2.2 (by omega);have h2:=bY J.2.1 H.2.2 (by omega);have h3:=bY H.2.2 J.2.2 (by omega);refine J3 H.1 J.1 h1 h2 (jp (k:=i+j+1) (atT (k:=i+j) ?_ ?_).2 (by omega)) h3
 ·rw[zaF];exact bD H.2.1 J.2.2
 ·rw[zaF,zb3];exact bD J.2.1 H.2.2
theorem FewR.mul (H:FewR i a) (J:FewR j b) (h:i+j<=200):(ale a b).2=0:=
 J4 H.1 J.1 (bY H.2.1 J.2.1 h) (bY H.2.2 J.2.2 h)
theorem FewR.div (J:FewR i a) (H:FewR j b) (h0:qV b≠0) (h:i+j<=200):(cA a b).2=0:=
 J5 J.1 H.1 (λe=>h0 ((kM H.1).2 e)) (bY J.2.1 H.2.2 h) (bY J.2.2 H.2.1 h)
end
theorem Gives.eq {x y:RS×Int} {p q:Rat} (H:Gives x p) (J:Gives y q) (h:p=q):x.1=y.1:=by rw[H.fst,J.fst,h]
theorem rD {a b:RS} (H:rV a=true) (J:rV b=true):b9 a b=zY (qV a) (qV b):=by
 unfold b9;rw[if_pos (by simp[H,J])]
def wi (d:Nat):List UInt8:=List.replicate (4 - (Lib.decDigits d).length) 48++Lib.decDigits d
variable {d:Nat}
theorem dQ (H:d<10000):1<=(Lib.decDigits d).length/\(Lib.decDigits d).length<=4:=by
 refine⟨?_,(dP d 4 (by decide)).2 H⟩;have:=jo d;cases h:Lib.decDigits d with
 |nil=>exact absurd h this
 |cons a t=>simp
variable {T:Nat}
theorem z8 (hT:0<T) (hd:d<10000):ae 10 (d+10000*T)=ae 10 d++List.replicate (4 - (ae 10 d).length) 0++ae 10 T:=by
 symm
 have J:(ae 10 d).length<=4:=(ai (by decide) d 4).2 (by omega);have H:ae 10 T≠ []:=λe=>by have:=(aZ (B:=10) (by decide)).1 e;omega
 refine kG (by decide) ⟨?_, ?_⟩ ?_
 ·intro z N;rw[za8,za8] at N;rcases N with (h|h)|h
  ·exact aK (by decide) d z h
  ·have:=List.eq_of_mem_replicate h;omega
  ·exact aK (by decide) T z h
 ·rw[List.getLast?_append];have h2:=oT (B:=10) (by decide) T;cases h3:(ae 10 T).getLast? with
  |none=>exact absurd (List.getLast?_eq_none_iff.1 h3) H
  |some z=>rw[h3] at h2;simpa using h2
 ·have Y: ∀n,val 10 (List.replicate n 0)=0:=by
   intro n
   induction n with
   |zero=>rfl
   |succ n ih=>rw[zcd,val,ih]
  rw[alj,alj,Y,bi (by decide),bi (by decide),za3,zcw];have:(ae 10 d).length+(4 - (ae 10 d).length)=4:=by omega
  rw[this];omega
theorem qD (H:0<T) (J:d<10000):Lib.decDigits (d+10000*T)=Lib.decDigits T++wi d:=by
 unfold wi;rw[aL (d+10000*T),aL T,if_neg (by omega),if_neg (by omega),z8 H J,zcV,zcV,zb8,zb8]
 congr 1
 rw[aL d];by_cases h0:d=0
 ·subst h0;rw[if_pos rfl,aF];decide
 ·rw[if_neg h0,List.reverse_replicate,List.map_replicate];simp
def wj (l:zdH) (k:Nat):Nat:=val 10000 (l.drop (l.length - k))
variable {l:zdH} {k:Nat}
theorem uS (h:k<l.length):wj l (k+1)=l[l.length - 1 - k]+10000*wj l k:=by
 unfold wj;have e:l.length - (k+1)=l.length - 1 - k:=by omega
 rw[e,zaH (by omega),val]
 congr 4;omega
theorem FY (J:l.getLast? ≠some 0) (h0:0<k) (h:k<=l.length):0<wj l k:=by
 unfold wj;have H:l.drop (l.length - k)≠ []:=by
  intro e;have:=congrArg List.length e;rw[zbQ] at this;simp at this;omega
 refine am4 (by decide) H ?_;rw[List.getLast?_drop,if_neg (by omega)];exact J
theorem FZ (l:zdH):wj l l.length=val 10000 l:=by unfold wj;rw[zaJ,zaZ]
def Rz (l:zdH) (k:Nat):List UInt8:=if k=0 then [] else Lib.decDigits (wj l k)
theorem aAK (h:0<l.length):Rz l 1=Rz l 0++Lib.decDigits l[l.length - 1]:=by
 unfold Rz;rw[if_neg (by decide),if_pos rfl,uS h,zaM];simp[wj,val]
theorem DB (J:l.getLast? ≠some 0) (H: ∀z∈l,z<10000) (h0:0<k) (h:k<l.length):Rz l (k+1)=Rz l k++wi l[l.length - 1 - k]:=by
 unfold Rz;rw[if_neg (by omega),if_neg (by omega),uS h];exact qD (FY J h0 (by omega)) (H _ (zas _))
theorem F0 {x:Nat} (h:x≠0):Rz (ae 10000 x) (ae 10000 x).length=Lib.decDigits x:=by
 unfold Rz;rw[if_neg,FZ,bi (by decide)];intro e;have:=(aZ (B:=10000) (by decide)).1 (zau e);exact h this
theorem sm {n:Int} (h:n.natAbs<10^9):aq n=true:=jp h (by decide)
end Yk
