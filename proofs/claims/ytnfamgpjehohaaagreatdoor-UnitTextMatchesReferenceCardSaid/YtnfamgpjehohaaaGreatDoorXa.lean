/- Aids for the claim. -/
import Derived.Lib.ItoaNum
import Derived.Laws.Strings
import Derived.Lib.Atoi
import Derived.WalkKit
import Derived.Orders
import Derived.Below
import Derived.Scope
import Derived.ArgAppend
set_option linter.unusedVariables false
set_option linter.unusedSimpArgs false
namespace Yk
open Go
def dig (c : UInt8) : Bool := 48 ≤ c && c ≤ 57
theorem dig_iff (c : UInt8) : dig c = true ↔ 48 ≤ c.toNat ∧ c.toNat ≤ 57 := by
 simp [dig, UInt8.le_iff_toNat_le]
def body (l : List UInt8) : List UInt8 := if l.head? = some 45 then l.tail else l
def vld (l : List UInt8) : Bool :=
 decide (body l ≠ []) && decide ((body l).length ≤ 200) && (body l).all dig && (decide (l = [48]) || decide ((body l).head? ≠ some 48))
theorem ba_at (s : ByteArray) (i : Nat) (h : i < s.size) : s.data.toList[i]? = some s[i] := by
 rw [Array.getElem?_toList]
 exact Array.getElem?_eq_getElem h
theorem ba_len (s : ByteArray) : s.data.toList.length = s.size := by simp
theorem ba_tail (s : ByteArray) : (s.extract 1 s.size).data.toList = s.data.toList.tail := by
 rw [ByteArray.data_extract]
 simp
 rw [List.take_of_length_le (by simp)]
theorem ba_ext {a b : ByteArray} (h : a.data.toList = b.data.toList) : a = b := by
 cases a; cases b; simp at h; simp [h]
theorem ba_toList (s : ByteArray) : s.toList = s.data.toList := by
 exact ByteArray.toList_eq s
theorem vld_digits {l : List UInt8} (h : vld l = true) : ∀ (i : Nat) c, (body l)[i]? = some c → 48 ≤ c.toNat ∧ c.toNat ≤ 57 := by
 intro i c hc
 simp only [vld, Bool.and_eq_true, List.all_eq_true] at h
 exact (dig_iff c).1 (h.1.2 c (List.mem_of_getElem? hc))
theorem vld_not_digit {l : List UInt8} {i : Nat} {c : UInt8} (hc : (body l)[i]? = some c) (h : c.toNat < 48 ∨ 57 < c.toNat) : vld l = false := by
 cases hv : vld l with
 | false => rfl
 | true => have := vld_digits hv i c hc; omega
theorem vld_empty {l : List UInt8} (h : body l = []) : vld l = false := by simp [vld, h]
theorem vld_long {l : List UInt8} (h : 200 < (body l).length) : vld l = false := by
 simp [vld]; omega
theorem vld_rest {l : List UInt8} (h0 : body l ≠ []) (h1 : (body l).length ≤ 200) (h2 : ∀ (i : Nat) c, (body l)[i]? = some c → 48 ≤ c.toNat ∧ c.toNat ≤ 57) :
 vld l = (decide (l = [48]) || decide ((body l).head? ≠ some 48)) := by
 have h3 : (body l).all dig = true := by
  rw [List.all_eq_true]
  intro c hc
  obtain ⟨i, hi⟩ := List.getElem?_of_mem hc
  exact (dig_iff c).2 (h2 i c hi)
 simp [vld, h0, h1, h3]
theorem body_neg {l : List UInt8} (h : l.head? = some 45) : body l = l.tail := by simp [body, h]
theorem body_pos {l : List UInt8} (h : l.head? ≠ some 45) : body l = l := by simp [body, h]
end Yk
namespace Yk
def val (B : Nat) : List Nat → Nat
 | [] => 0
 | d :: t => d + B * val B t
theorem val_append (B : Nat) (l m : List Nat) : val B (l ++ m) = val B l + B ^ l.length * val B m := by
 induction l with
 | nil => simp [val]
 | cons d t ih => simp only [List.cons_append, val, ih, List.length_cons, Nat.pow_succ, Nat.mul_add]; rw [Nat.mul_comm (B ^ t.length) B, Nat.mul_assoc]; omega
theorem val_snoc (B : Nat) (l : List Nat) (d : Nat) : val B (l ++ [d]) = val B l + B ^ l.length * d := by
 rw [val_append]; simp [val]
theorem val_lt {B : Nat} : ∀ {l : List Nat}, (∀ d ∈ l, d < B) → val B l < B ^ l.length
 | [], _ => by simp [val]
 | d :: t, h => by
   have h1 := h d (by simp)
   have h2 := val_lt (B := B) (l := t) (fun x hx => h x (by simp [hx]))
   simp only [val, List.length_cons, Nat.pow_succ]
   have h3 : B * (val B t + 1) ≤ B * B ^ t.length := Nat.mul_le_mul_left B h2
   rw [Nat.mul_add] at h3
   rw [Nat.mul_comm (B ^ t.length) B]
   omega
def digs (B n : Nat) : List Nat := if h : n = 0 ∨ B < 2 then [] else n % B :: digs B (n / B)
termination_by n
decreasing_by exact Nat.div_lt_self (by omega) (by omega)
theorem digs_zero (B : Nat) : digs B 0 = [] := by rw [digs]; simp
theorem digs_pos {B n : Nat} (hB : 2 ≤ B) (h : n ≠ 0) : digs B n = n % B :: digs B (n / B) := by
 rw [digs, dif_neg (by omega)]
theorem val_digs {B : Nat} (hB : 2 ≤ B) (n : Nat) : val B (digs B n) = n := by
 induction n using Nat.strongRecOn with
 | _ n ih =>
   by_cases h : n = 0
   · rw [h, digs_zero]; rfl
   · rw [digs_pos hB h, val, ih (n / B) (Nat.div_lt_self (by omega) (by omega))]
     exact Nat.mod_add_div n B
theorem digs_lt {B : Nat} (hB : 2 ≤ B) (n : Nat) : ∀ d ∈ digs B n, d < B := by
 induction n using Nat.strongRecOn with
 | _ n ih =>
   by_cases h : n = 0
   · rw [h, digs_zero]; simp
   · rw [digs_pos hB h]
     intro d hd
     rcases List.mem_cons.1 hd with rfl | hd
     · exact Nat.mod_lt _ (by omega)
     · exact ih (n / B) (Nat.div_lt_self (by omega) (by omega)) d hd
def Canon (B : Nat) (l : List Nat) : Prop := (∀ d ∈ l, d < B) ∧ l.getLast? ≠ some 0
theorem digs_eq_nil {B n : Nat} (hB : 2 ≤ B) : digs B n = [] ↔ n = 0 := by
 constructor
 · intro h; have := val_digs hB n; rw [h] at this; exact this.symm
 · rintro rfl; exact digs_zero B
theorem digs_last {B : Nat} (hB : 2 ≤ B) (n : Nat) : (digs B n).getLast? ≠ some 0 := by
 induction n using Nat.strongRecOn with
 | _ n ih =>
   by_cases h : n = 0
   · rw [h, digs_zero]; simp
   · rw [digs_pos hB h]
     by_cases h2 : n / B = 0
     · rw [h2, digs_zero]
       have : n % B = n := by rw [Nat.div_eq_zero_iff] at h2; exact Nat.mod_eq_of_lt (by omega)
       simp [this, h]
     · have h3 := ih (n / B) (Nat.div_lt_self (by omega) (by omega))
       rw [List.getLast?_cons]
       cases hd : digs B (n / B) with
       | nil => rw [digs_eq_nil hB] at hd; exact absurd hd h2
       | cons a t => rw [hd] at h3; simpa [List.getLast?_cons] using h3
theorem val_pos_of_canon {B : Nat} (hB : 2 ≤ B) : ∀ {l : List Nat}, l ≠ [] → l.getLast? ≠ some 0 → 0 < val B l
 | [], h, _ => absurd rfl h
 | [d], _, h => by simp at h; simp [val]; omega
 | d :: e :: t, _, h => by
   have h2 := val_pos_of_canon hB (l := e :: t) (by simp) (by simpa [List.getLast?_cons] using h)
   rw [val]
   have : 0 < B * val B (e :: t) := Nat.mul_pos (by omega) h2
   omega
theorem digs_val {B : Nat} (hB : 2 ≤ B) : ∀ {l : List Nat}, Canon B l → digs B (val B l) = l
 | [], _ => digs_zero B
 | d :: t, h => by
   have hd := h.1 d (by simp)
   have ht : Canon B t := ⟨fun x hx => h.1 x (by simp [hx]), by
    cases t with
    | nil => simp
    | cons a u => simpa [List.getLast?_cons] using h.2⟩
   have hp : val B (d :: t) ≠ 0 := by have := val_pos_of_canon hB (l := d :: t) (by simp) h.2; omega
   rw [digs_pos hB hp, val, Nat.add_mul_mod_self_left, Nat.mod_eq_of_lt hd, Nat.add_mul_div_left _ _ (by omega), Nat.div_eq_of_lt hd, Nat.zero_add, digs_val hB ht]
theorem canon_eq {B : Nat} (hB : 2 ≤ B) {l : List Nat} (h : Canon B l) {n : Nat} (hv : val B l = n) : l = digs B n := by
 rw [← hv, digs_val hB h]
theorem digs_length_le {B : Nat} (hB : 2 ≤ B) (n k : Nat) : (digs B n).length ≤ k ↔ n < B ^ k := by
 induction k generalizing n with
 | zero => simp [digs_eq_nil hB]
 | succ k ih =>
   by_cases h : n = 0
   · rw [h, digs_zero]; simp; exact Nat.pow_pos (by omega)
   · rw [digs_pos hB h, List.length_cons, Nat.succ_le_succ_iff, ih, Nat.pow_succ]
     exact Nat.div_lt_iff_lt_mul (by omega)
theorem digs_digit {B : Nat} (hB : 2 ≤ B) {d : Nat} (h : d < B) (h0 : d ≠ 0) : digs B d = [d] := by
 rw [digs_pos hB h0, Nat.mod_eq_of_lt h, Nat.div_eq_of_lt h, digs_zero]
theorem digs_shift {B : Nat} (hB : 2 ≤ B) {d n : Nat} (h : d < B) (h0 : d + B * n ≠ 0) : digs B (d + B * n) = d :: digs B n := by
 rw [digs_pos hB h0, Nat.add_mul_mod_self_left, Nat.mod_eq_of_lt h, Nat.add_mul_div_left _ _ (by omega), Nat.div_eq_of_lt h, Nat.zero_add]
def trimZ (l : List Nat) : List Nat := if l.getLast? = some 0 then trimZ l.dropLast else l
termination_by l.length
decreasing_by
 rename_i h
 cases l with
 | nil => simp at h
 | cons a t => simp
theorem val_trimZ (B : Nat) (l : List Nat) : val B (trimZ l) = val B l := by
 induction h : l.length using Nat.strongRecOn generalizing l with
 | _ n ih =>
   rw [trimZ]
   split
   · rename_i h0
     obtain ⟨hne, h1⟩ := List.getLast?_eq_some_iff.1 h0
     have hl : l = l.dropLast ++ [0] := by
      conv => lhs; rw [h1]
      rw [h1]; simp
     rw [ih l.dropLast.length (by rw [hl] at h ⊢; simp at h ⊢; omega) l.dropLast rfl]
     conv => rhs; rw [hl]
     rw [val_snoc]; simp
   · rfl
theorem trimZ_canon {B : Nat} (l : List Nat) (h : ∀ d ∈ l, d < B) : Canon B (trimZ l) := by
 induction hn : l.length using Nat.strongRecOn generalizing l with
 | _ n ih =>
   rw [trimZ]
   split
   · rename_i h0
     refine ih l.dropLast.length ?_ l.dropLast (fun d hd => h d ((List.dropLast_sublist l).subset hd)) rfl
     cases l with
     | nil => simp at h0
     | cons a t => simp at hn ⊢; omega
   · rename_i h0; exact ⟨h, h0⟩
theorem trimZ_eq {B : Nat} (hB : 2 ≤ B) (l : List Nat) (h : ∀ d ∈ l, d < B) : trimZ l = digs B (val B l) := by
 rw [← val_trimZ B l]; exact (digs_val hB (trimZ_canon l h)).symm
end Yk
namespace Yk
theorem val_split (B : Nat) (l : List Nat) (i : Nat) (h : i < l.length) : val B l = val B (l.take i) + B ^ i * (l[i] + B * val B (l.drop (i + 1))) := by
 conv => lhs; rw [← List.take_append_drop i l]
 rw [val_append, List.length_take, Nat.min_eq_left (by omega), List.drop_eq_getElem_cons h]
 rfl
theorem val_less {B : Nat} {l m : List Nat} {i : Nat} (hl : i < l.length) (hm : i < m.length) (hd : ∀ d ∈ l, d < B) (h1 : l.drop (i + 1) = m.drop (i + 1)) (h2 : l[i] < m[i]) : val B l < val B m := by
 rw [val_split B l i hl, val_split B m i hm, h1]
 have h3 := val_lt (B := B) (l := l.take i) (fun d h => hd d (List.mem_of_mem_take h))
 rw [List.length_take, Nat.min_eq_left (by omega)] at h3
 generalize B * val B (m.drop (i + 1)) = r at *
 have h4 : B ^ i * (l[i] + r + 1) ≤ B ^ i * (m[i] + r) := Nat.mul_le_mul_left _ (by omega)
 rw [Nat.mul_add] at h4
 omega
theorem digs_len_lt {B : Nat} (hB : 2 ≤ B) {x y : Nat} (h : (digs B x).length < (digs B y).length) : x < y := by
 have h1 := (digs_length_le hB x (digs B x).length).1 (Nat.le_refl _)
 have h2 := mt (digs_length_le hB y (digs B x).length).2 (by omega)
 omega
theorem digs_less {B : Nat} (hB : 2 ≤ B) {x y i : Nat} (hl : i < (digs B x).length) (hm : i < (digs B y).length) (h1 : (digs B x).drop (i + 1) = (digs B y).drop (i + 1)) (h2 : (digs B x)[i] < (digs B y)[i]) : x < y := by
 have := val_less hl hm (digs_lt hB x) h1 h2
 rwa [val_digs hB, val_digs hB] at this
theorem digs_inj {B : Nat} (hB : 2 ≤ B) {x y : Nat} (h : digs B x = digs B y) : x = y := by rw [← val_digs hB x, h, val_digs hB]
def cmpN (x y : Nat) : Int := if x < y then -1 else if y < x then 1 else 0
theorem cmpN_lt {x y : Nat} (h : x < y) : cmpN x y = -1 := by simp [cmpN, h]
theorem cmpN_gt {x y : Nat} (h : y < x) : cmpN x y = 1 := by have : ¬ x < y := by omega
                                                             simp [cmpN, h, this]
theorem cmpN_eq {x y : Nat} (h : x = y) : cmpN x y = 0 := by subst h; simp [cmpN]
theorem drop_step {l m : List Nat} {i : Nat} (hl : i < l.length) (hm : i < m.length) (h1 : l.drop (i + 1) = m.drop (i + 1)) (h2 : l[i] = m[i]) : l.drop i = m.drop i := by
 rw [List.drop_eq_getElem_cons hl, List.drop_eq_getElem_cons hm, h1, h2]
end Yk
namespace Yk
theorem trimZ_zero {l : List Nat} {k : Nat} (h : k < l.length) (h0 : l[k] = 0) : trimZ (l.take (k + 1)) = trimZ (l.take k) := by
 have e : l.take (k + 1) = l.take k ++ [0] := by rw [List.take_add_one, List.getElem?_eq_getElem h, h0]; rfl
 rw [e, trimZ, if_pos (by simp)]
 simp
theorem trimZ_stop {l : List Nat} {k : Nat} (h : k < l.length) (h0 : l[k] ≠ 0) : trimZ (l.take (k + 1)) = l.take (k + 1) := by
 have e : l.take (k + 1) = l.take k ++ [l[k]] := by rw [List.take_add_one, List.getElem?_eq_getElem h]; rfl
 rw [e, trimZ, if_neg (by rw [List.getLast?_concat]; simpa using h0)]
theorem trimZ_nil : trimZ [] = [] := by rw [trimZ]; simp
end Yk
namespace Yk
open Go
def dv (c : UInt8) : Nat := c.toNat - 48
def nat10 (l : List UInt8) : Nat := val 10 (l.reverse.map dv)
def negB (l : List UInt8) : Bool := decide (l.head? = some 45)
def toI (l : List UInt8) : Int := if l.head? = some 45 then -(nat10 (body l) : Int) else nat10 (body l)
theorem dv_lt {c : UInt8} (h : dig c = true) : dv c < 10 := by have := (dig_iff c).1 h; unfold dv; omega
theorem vld_parts {l : List UInt8} (h : vld l = true) : body l ≠ [] ∧ (body l).length ≤ 200 ∧ (∀ c ∈ body l, dig c = true) ∧ (l = [48] ∨ (body l).head? ≠ some 48) := by
 simp only [vld, Bool.and_eq_true, Bool.or_eq_true, decide_eq_true_eq, List.all_eq_true] at h
 exact ⟨h.1.1.1, h.1.1.2, h.1.2, h.2⟩
theorem vld_mk {l : List UInt8} (h1 : body l ≠ []) (h2 : (body l).length ≤ 200) (h3 : ∀ c ∈ body l, dig c = true) (h4 : l = [48] ∨ (body l).head? ≠ some 48) : vld l = true := by
 simp only [vld, Bool.and_eq_true, Bool.or_eq_true, decide_eq_true_eq, List.all_eq_true]
 exact ⟨⟨⟨h1, h2⟩, h3⟩, h4⟩
theorem body_ne_zero {l : List UInt8} (h : vld l = true) (h0 : l ≠ [48]) : body l ≠ [48] := by
 intro e
 rcases (vld_parts h).2.2.2 with h1 | h1
 · exact h0 h1
 · rw [e] at h1; simp at h1
theorem digs_text {l : List UInt8} (h : vld l = true) (h0 : l ≠ [48]) : (body l).reverse.map dv = digs 10 (nat10 (body l)) := by
 obtain ⟨h1, h2, h3, h4⟩ := vld_parts h
 refine canon_eq (by decide) ⟨?_, ?_⟩ rfl
 · intro d hd
   obtain ⟨c, hc, rfl⟩ := List.mem_map.1 hd
   exact dv_lt (h3 c (List.mem_reverse.1 hc))
 · rw [List.getLast?_map, List.getLast?_reverse]
   have h5 := h4.resolve_left h0
   cases hb : (body l).head? with
   | none => simp
   | some c =>
     have hd := (dig_iff c).1 (h3 c (List.mem_of_head? hb))
     rw [hb] at h5
     simp only [Option.map_some, ne_eq, Option.some.injEq]
     have : c ≠ 48 := fun e => h5 (by rw [e])
     have h6 : c.toNat ≠ 48 := fun e => this (UInt8.toNat_inj.1 e)
     unfold dv; omega
theorem nat10_lt {l : List UInt8} (h : ∀ c ∈ l, dig c = true) : nat10 l < 10 ^ l.length := by
 have := val_lt (B := 10) (l := l.reverse.map dv) (by
  intro d hd
  obtain ⟨c, hc, rfl⟩ := List.mem_map.1 hd
  exact dv_lt (h c (List.mem_reverse.1 hc)))
 simpa [nat10] using this
def BIG : Nat := 10 ^ 200
theorem toI_lt {l : List UInt8} (h : vld l = true) : (toI l).natAbs < BIG := by
 obtain ⟨h1, h2, h3, h4⟩ := vld_parts h
 have h5 := nat10_lt h3
 have h6 : 10 ^ (body l).length ≤ 10 ^ 200 := Nat.pow_le_pow_right (by decide) h2
 unfold toI BIG
 split <;> omega
theorem toI_abs (l : List UInt8) : (toI l).natAbs = nat10 (body l) := by
 unfold toI; split <;> omega
theorem decDigits_digs (u : Nat) : Lib.decDigits u = if u = 0 then [48] else (digs 10 u).reverse.map (fun d => UInt8.ofNat (48 + d)) := by
 induction u using Nat.strongRecOn with
 | _ u ih =>
   by_cases h : u < 10
   · rw [Lib.decDigits, dif_pos h]
     by_cases h0 : u = 0
     · subst h0; rfl
     · rw [if_neg h0, digs_digit (by decide) h h0]; rfl
   · rw [Lib.decDigits, dif_neg h, ih (u / 10) (by omega), if_neg (by omega), if_neg (by omega), digs_pos (n := u) (by decide) (by omega)]
     simp
theorem ofNat_dv {c : UInt8} (h : dig c = true) : UInt8.ofNat (48 + dv c) = c := by
 have := (dig_iff c).1 h
 apply UInt8.toNat_inj.1
 unfold dv
 simp; omega
theorem dv_ofNat {d : Nat} (h : d < 10) : dv (UInt8.ofNat (48 + d)) = d := by
 unfold dv; simp; omega
theorem dig_ofNat {d : Nat} (h : d < 10) : dig (UInt8.ofNat (48 + d)) = true := by
 rw [dig_iff]; simp; omega
theorem decDigits_all (u : Nat) : ∀ c ∈ Lib.decDigits u, dig c = true := by
 intro c hc
 rw [decDigits_digs] at hc
 split at hc
 · simp at hc; subst hc; rfl
 · obtain ⟨d, hd, rfl⟩ := List.mem_map.1 hc
   exact dig_ofNat (digs_lt (by decide) u d (List.mem_reverse.1 hd))
theorem nat10_decDigits (u : Nat) : nat10 (Lib.decDigits u) = u := by
 rw [decDigits_digs]
 split
 · rename_i h; subst h; rfl
 · unfold nat10
   rw [← List.map_reverse, List.reverse_reverse, List.map_map]
   rw [show (digs 10 u).map (dv ∘ fun d => UInt8.ofNat (48 + d)) = digs 10 u from ?_, val_digs (by decide)]
   conv => rhs; rw [← List.map_id (digs 10 u)]
   exact List.map_congr_left fun d hd => dv_ofNat (digs_lt (by decide) u d hd)
theorem decDigits_ne_nil (u : Nat) : Lib.decDigits u ≠ [] := by
 rw [decDigits_digs]; split
 · simp
 · rename_i h; simp [digs_eq_nil, h]
theorem decDigits_length_le (u k : Nat) (hk : 1 ≤ k) : (Lib.decDigits u).length ≤ k ↔ u < 10 ^ k := by
 rw [decDigits_digs]; split
 · rename_i h; subst h; simp; constructor
   · intro _; exact Nat.pow_pos (by decide)
   · intro _; exact hk
 · simpa using digs_length_le (by decide) u k
theorem decDigits_nat10 {l : List UInt8} (h : vld l = true) : Lib.decDigits (nat10 (body l)) = body l := by
 by_cases h0 : l = [48]
 · subst h0; decide +kernel
 · have h1 := digs_text h h0
   obtain ⟨a1, a2, a3, a4⟩ := vld_parts h
   rw [decDigits_digs, if_neg, ← h1, List.map_reverse, List.map_reverse, List.map_reverse, List.reverse_reverse, List.map_map]
   · conv => rhs; rw [← List.map_id (body l)]
     exact List.map_congr_left fun c hc => ofNat_dv (a3 c hc)
   · intro e
     rw [e, digs_zero] at h1
     exact a1 (by simpa using h1)
theorem decDigits_head (u : Nat) : (Lib.decDigits u).head? = some 48 → u = 0 := by
 rw [decDigits_digs]; split
 · intro _; assumption
 · rename_i h
   intro e
   rw [List.head?_map, List.head?_reverse] at e
   have h1 := digs_last (B := 10) (by decide) u
   cases hl : (digs 10 u).getLast? with
   | none => rw [hl] at e; simp at e
   | some d =>
     rw [hl] at e h1
     have hd := digs_lt (B := 10) (by decide) u d (List.mem_of_getLast? hl)
     simp only [Option.map_some, Option.some.injEq] at e
     have := congrArg UInt8.toNat e
     simp at this
     exfalso; apply h1; congr 1; omega
theorem decDigits_head_ne (u : Nat) : (Lib.decDigits u).head? ≠ some 45 := by
 intro e
 have := decDigits_all u 45 (List.mem_of_head? e)
 exact absurd this (by decide)
theorem itoa_neg {n : Int} (h : n < 0) : Lib.itoa n = 45 :: Lib.decDigits n.natAbs := by simp [Lib.itoa, h]
theorem itoa_pos {n : Int} (h : 0 ≤ n) : Lib.itoa n = Lib.decDigits n.natAbs := by
 have : ¬ n < 0 := by omega
 simp only [Lib.itoa, this, if_false]
 congr 1; omega
theorem body_itoa (n : Int) : body (Lib.itoa n) = Lib.decDigits n.natAbs := by
 by_cases h : n < 0
 · rw [itoa_neg h]; rfl
 · rw [itoa_pos (by omega)]; exact body_pos (decDigits_head_ne _)
theorem itoa_head (n : Int) : (Lib.itoa n).head? = some 45 ↔ n < 0 := by
 by_cases h : n < 0
 · rw [itoa_neg h]; simp [h]
 · rw [itoa_pos (by omega)]; simp only [h, iff_false]; exact decDigits_head_ne _
theorem toI_itoa (n : Int) : toI (Lib.itoa n) = n := by
 unfold toI
 rw [body_itoa, nat10_decDigits]
 by_cases h : n < 0
 · rw [if_pos ((itoa_head n).2 h)]; omega
 · rw [if_neg (fun e => h ((itoa_head n).1 e))]; omega
theorem vld_itoa (n : Int) : vld (Lib.itoa n) = true ↔ n.natAbs < BIG := by
 have hl := decDigits_length_le n.natAbs 200 (by decide)
 constructor
 · intro h
   have := (vld_parts h).2.1
   rw [body_itoa] at this
   exact hl.1 this
 · intro h
   refine vld_mk (by rw [body_itoa]; exact decDigits_ne_nil _) (by rw [body_itoa]; exact hl.2 h) (by rw [body_itoa]; exact decDigits_all _) ?_
   rw [body_itoa]
   by_cases h0 : n = 0
   · left; subst h0; decide +kernel
   · right; intro e; have := decDigits_head _ e; omega
theorem itoa_toI {l : List UInt8} (h : vld l = true) : Lib.itoa (toI l) = l := by
 have h1 := decDigits_nat10 h
 obtain ⟨a1, a2, a3, a4⟩ := vld_parts h
 by_cases hh : l.head? = some 45
 · have hl : l = 45 :: body l := by
    cases l with
    | nil => simp at hh
    | cons c t => simp at hh; subst hh; rfl
   have hne : l ≠ [48] := by intro e; rw [e] at hh; simp at hh
   have hn : nat10 (body l) ≠ 0 := by
    intro e
    rw [e] at h1
    have h2 : body l = [48] := by rw [← h1]; decide +kernel
    exact body_ne_zero h hne h2
   have e : toI l = -(nat10 (body l) : Int) := by simp [toI, hh]
   rw [e, itoa_neg (by omega), show (-(nat10 (body l) : Int)).natAbs = nat10 (body l) by omega, h1]
   exact hl.symm
 · have e : toI l = nat10 (body l) := by simp [toI, hh]
   rw [e, itoa_pos (by omega), show ((nat10 (body l) : Int)).natAbs = nat10 (body l) by omega, h1, body_pos hh]
def ofI (n : Int) : ByteArray := ⟨(Lib.itoa n).toArray⟩
theorem ofI_list (n : Int) : (ofI n).data.toList = Lib.itoa n := by simp [ofI]
theorem vld_ofI {n : Int} (h : n.natAbs < BIG) : vld (ofI n).data.toList = true := by rw [ofI_list]; exact (vld_itoa n).2 h
theorem toI_ofI (n : Int) : toI (ofI n).data.toList = n := by rw [ofI_list, toI_itoa]
end Yk
namespace Yk
theorem val_take_succ (B : Nat) (m : List Nat) (k : Nat) : val B (m.take (k + 1)) = val B (m.take k) + B ^ k * m.getD k 0 := by
 rw [List.take_add_one]
 by_cases hk : k < m.length
 · rw [List.getElem?_eq_getElem hk, Option.toList_some, val_snoc, List.length_take, Nat.min_eq_left (by omega)]
   simp [List.getD, List.getElem?_eq_getElem hk]
 · rw [List.getElem?_eq_none (by omega)]; simp [List.getD, List.getElem?_eq_none (show m.length ≤ k by omega)]
theorem canon_of_ge {B : Nat} {l : List Nat} (h : ∀ d ∈ l, d < B) (h2 : l ≠ [] → B ^ (l.length - 1) ≤ val B l) : Canon B l := by
 refine ⟨h, fun e => ?_⟩
 obtain ⟨hne, h1⟩ := List.getLast?_eq_some_iff.1 e
 rw [h1] at h2 h
 have h3 := h2 (by simp)
 rw [val_snoc] at h3
 have h4 := val_lt (B := B) (l := hne) (fun d hd => h d (by simp [hd]))
 simp at h3
 omega
theorem digs_ge {B : Nat} (hB : 2 ≤ B) {n : Nat} (h : digs B n ≠ []) : B ^ ((digs B n).length - 1) ≤ n := by
 have h1 := mt (digs_length_le hB n ((digs B n).length - 1)).2 (by have := List.length_pos_iff.2 h; omega)
 omega
theorem sum_step {B : Nat} {l a b : List Nat} {c k : Nat} (h : val B l + B ^ k * c = val B (a.take k) + val B (b.take k)) (hl : l.length = k) :
 val B (l ++ [(c + a.getD k 0 + b.getD k 0) % B]) + B ^ (k + 1) * ((c + a.getD k 0 + b.getD k 0) / B) = val B (a.take (k + 1)) + val B (b.take (k + 1)) := by
 rw [val_snoc, hl, val_take_succ, val_take_succ, Nat.pow_succ]
 have e : B ^ k * ((c + a.getD k 0 + b.getD k 0) % B) + B ^ k * B * ((c + a.getD k 0 + b.getD k 0) / B) = B ^ k * c + B ^ k * a.getD k 0 + B ^ k * b.getD k 0 := by
  rw [Nat.mul_assoc, ← Nat.mul_add, ← Nat.mul_add, ← Nat.mul_add, Nat.mod_add_div]
 omega
theorem digs_getD_lt {B : Nat} (hB : 2 ≤ B) (n k : Nat) : (digs B n).getD k 0 < B := by
 by_cases hk : k < (digs B n).length
 · rw [List.getD, List.getElem?_eq_getElem hk]; exact digs_lt hB n _ (List.getElem_mem hk)
 · rw [List.getD, List.getElem?_eq_none (by omega)]; simp; omega
theorem sum_end {B : Nat} (hB : 2 ≤ B) {l : List Nat} {x y k : Nat} (h : val B l + B ^ k * 0 = val B ((digs B x).take k) + val B ((digs B y).take k)) (hl : l.length = k) (hd : ∀ d ∈ l, d < B)
 (h1 : (digs B x).length ≤ k) (h2 : (digs B y).length ≤ k) (h3 : k ≤ (digs B x).length ∨ k ≤ (digs B y).length ∨ l.getLast? ≠ some 0) : l = digs B (x + y) := by
 rw [List.take_of_length_le h1, List.take_of_length_le h2, val_digs hB, val_digs hB, Nat.mul_zero, Nat.add_zero] at h
 rcases h3 with h3 | h3 | h3
 · refine canon_eq hB (canon_of_ge hd fun hne => ?_) h
   have := digs_ge hB (n := x) (by intro e; rw [e] at h3; simp at h3; subst h3; exact hne (List.eq_nil_of_length_eq_zero hl))
   rw [hl, h, show k = (digs B x).length by omega]; omega
 · refine canon_eq hB (canon_of_ge hd fun hne => ?_) h
   have := digs_ge hB (n := y) (by intro e; rw [e] at h3; simp at h3; subst h3; exact hne (List.eq_nil_of_length_eq_zero hl))
   rw [hl, h, show k = (digs B y).length by omega]; omega
 · exact canon_eq hB ⟨hd, h3⟩ h
theorem diff_step {B : Nat} (hB : 2 ≤ B) {l a b : List Nat} {c k : Nat} (h : val B l + val B (b.take k) + 0 = val B (a.take k) + B ^ k * c) (hl : l.length = k) (hc : c ≤ 1) (ha : a.getD k 0 < B) (hb : b.getD k 0 < B)
 {d c' : Nat} (h1 : a.getD k 0 + B * c' = d + c + b.getD k 0) :
 val B (l ++ [d]) + val B (b.take (k + 1)) + 0 = val B (a.take (k + 1)) + B ^ (k + 1) * c' := by
 rw [val_snoc, hl, val_take_succ, val_take_succ, Nat.pow_succ]
 have e : B ^ k * a.getD k 0 + B ^ k * B * c' = B ^ k * d + B ^ k * c + B ^ k * b.getD k 0 := by
  rw [Nat.mul_assoc, ← Nat.mul_add, ← Nat.mul_add, ← Nat.mul_add, h1]
 omega
end Yk
namespace Yk
theorem val_set (B : Nat) : ∀ (l : List Nat) (j d : Nat) (h : j < l.length), val B (l.set j d) + B ^ j * l[j] = val B l + B ^ j * d
 | a :: t, 0, d, _ => by simp [val]; omega
 | a :: t, j + 1, d, h => by
   have h' : j < t.length := by simpa using h
   have ih := val_set B t j d h'
   simp only [List.set_cons_succ, val, List.getElem_cons_succ, Nat.pow_succ]
   have e1 : B ^ j * B * t[j] = B * (B ^ j * t[j]) := by rw [Nat.mul_comm (B ^ j) B, Nat.mul_assoc]
   have e2 : B ^ j * B * d = B * (B ^ j * d) := by rw [Nat.mul_comm (B ^ j) B, Nat.mul_assoc]
   have e3 : B * (val B (t.set j d) + B ^ j * t[j]) = B * (val B t + B ^ j * d) := by rw [ih]
   rw [Nat.mul_add, Nat.mul_add] at e3
   omega
theorem val_ge_at (B : Nat) (l : List Nat) (j : Nat) (h : j < l.length) : B ^ j * l[j] ≤ val B l := by
 rw [val_split B l j h, Nat.mul_add]; omega
theorem mul_step {B : Nat} {o : List Nat} {X j c ab : Nat} (h : j < o.length) (hv : val B o + B ^ j * c = X) :
 val B (o.set j ((o[j] + c + ab) % B)) + B ^ (j + 1) * ((o[j] + c + ab) / B) = X + B ^ j * ab := by
 have h1 := val_set B o j ((o[j] + c + ab) % B) h
 have e : B ^ j * ((o[j] + c + ab) % B) + B ^ j * B * ((o[j] + c + ab) / B) = B ^ j * o[j] + B ^ j * c + B ^ j * ab := by
  rw [Nat.mul_assoc, ← Nat.mul_add, ← Nat.mul_add, ← Nat.mul_add, Nat.mod_add_div]
 rw [Nat.pow_succ]
 omega
theorem mul_last {B : Nat} {o : List Nat} {X j c : Nat} (hB : 1 ≤ B) (h : j < o.length) (hv : val B o + B ^ j * c = X) (hX : X < B ^ (j + 1)) : o[j] + c < B := by
 have h1 := val_ge_at B o j h
 rw [Nat.pow_succ] at hX
 have h2 : B ^ j * (o[j] + c) < B ^ j * B := by rw [Nat.mul_add]; omega
 exact Nat.lt_of_mul_lt_mul_left h2
theorem mul_bound {B i lb : Nat} {a b : List Nat} (ha : ∀ d ∈ a, d < B) (hb : ∀ d ∈ b, d < B) (hlb : b.length = lb) (hi : i < a.length) :
 val B (a.take (i + 1)) * val B b < B ^ (i + lb + 1) := by
 have h1 := val_lt (B := B) (l := a.take (i + 1)) (fun d h => ha d (List.mem_of_mem_take h))
 have h2 := val_lt (B := B) hb
 rw [List.length_take, Nat.min_eq_left (by omega)] at h1
 rw [hlb] at h2
 rw [show i + lb + 1 = (i + 1) + lb by omega, Nat.pow_add]
 exact Nat.mul_lt_mul'' h1 h2
theorem val_replicate_zero (B n : Nat) : val B (List.replicate n 0) = 0 := by
 induction n with
 | zero => rfl
 | succ n ih => simp [List.replicate_succ, val, ih]
end Yk
namespace Yk
def DivInv (B x y j R : Nat) (q : List Nat) : Prop :=
 ∃ qs : List Nat, q = List.replicate j 0 ++ qs ∧ qs.length + j = (digs B x).length ∧ (∀ d ∈ qs, d < B) ∧ val B qs * y + R = val B ((digs B x).drop j) ∧ R < y
theorem DivInv.start {B x y : Nat} (hy : 0 < y) : DivInv B x y (digs B x).length 0 (List.replicate (digs B x).length 0) :=
 ⟨[], by simp, by simp, by simp, by rw [List.drop_of_length_le (Nat.le_refl _)]; simp [val], hy⟩
theorem DivInv.step {B x y j R R2 t d : Nat} {q : List Nat} (h : DivInv B x y (j + 1) R q) (hj : j < (digs B x).length) (hd : (digs B x)[j] = d) (h1 : R2 + t * y = d + B * R) (h2 : R2 < y) (h3 : t < B) :
 DivInv B x y j R2 (q.set j t) := by
 obtain ⟨qs, rfl, hl, hq, hv, hR⟩ := h
 refine ⟨t :: qs, ?_, by simp; omega, ?_, ?_, h2⟩
 · rw [List.replicate_succ', List.append_assoc, List.set_append_right _ _ (by simp)]
   simp
 · intro z hz
   rcases List.mem_cons.1 hz with rfl | hz
   · exact h3
   · exact hq z hz
 · rw [List.drop_eq_getElem_cons hj, val, val, hd, ← hv, Nat.mul_add, Nat.add_mul, Nat.mul_assoc]
   omega
theorem DivInv.done {B x y R : Nat} (hB : 2 ≤ B) {q : List Nat} (h : DivInv B x y 0 R q) : val B q = x / y ∧ R = x % y := by
 obtain ⟨qs, rfl, hl, hq, hv, hR⟩ := h
 simp only [List.replicate_zero, List.nil_append, List.drop_zero] at *
 rw [val_digs hB] at hv
 rw [← hv]
 constructor
 · rw [Nat.mul_comm, Nat.add_comm, Nat.add_mul_div_left _ _ (by omega), Nat.div_eq_of_lt hR, Nat.zero_add]
 · rw [Nat.mul_comm, Nat.add_comm, Nat.add_mul_mod_self_left, Nat.mod_eq_of_lt hR]
theorem DivInv.digits {B x y j R : Nat} (hB : 2 ≤ B) {q : List Nat} (h : DivInv B x y j R q) : ∀ d ∈ q, d < B := by
 obtain ⟨qs, rfl, hl, hq, hv, hR⟩ := h
 intro d hd
 rcases List.mem_append.1 hd with h | h
 · have := (List.mem_replicate.1 h).2; omega
 · exact hq d h
theorem DivInv.length {B x y j R : Nat} {q : List Nat} (h : DivInv B x y j R q) : q.length = (digs B x).length := by
 obtain ⟨qs, rfl, hl, _⟩ := h
 simp; omega
theorem DivInv.zero {B x y j R : Nat} {q : List Nat} (h : DivInv B x y (j + 1) R q) (hj : j < q.length) : q[j] = 0 := by
 obtain ⟨qs, rfl, hl, _⟩ := h
 rw [List.getElem_append_left (by simp)]
 simp
theorem shift_val {B d R : Nat} (hB : 2 ≤ B) (hd : d < B) : val B ([d] ++ digs B R) = d + B * R := by
 simp [val, val_digs hB]
theorem digs_length_mono {B : Nat} (hB : 2 ≤ B) {x y : Nat} (h : x ≤ y) : (digs B x).length ≤ (digs B y).length := by
 rw [digs_length_le hB]
 exact Nat.lt_of_le_of_lt h ((digs_length_le hB y _).1 (Nat.le_refl _))
theorem digs_length_shift {B : Nat} (hB : 2 ≤ B) {d R y : Nat} (hd : d < B) (hR : R < y) : (digs B (d + B * R)).length ≤ (digs B y).length + 1 := by
 rw [digs_length_le hB, Nat.pow_succ]
 have h1 := (digs_length_le hB y _).1 (Nat.le_refl _)
 have h2 : B * (R + 1) ≤ B * B ^ (digs B y).length := Nat.mul_le_mul_left B (by omega)
 rw [Nat.mul_add] at h2
 rw [Nat.mul_comm (B ^ _) B]
 omega
end Yk
namespace Yk
open Go
theorem nat10_append (l m : List UInt8) : nat10 (l ++ m) = nat10 m + 10 ^ m.length * nat10 l := by
 unfold nat10
 rw [List.reverse_append, List.map_append, val_append, List.length_map, List.length_reverse]
theorem digitVal_dig {c : UInt8} (h : dig c = true) : Lib.digitVal c = some (dv c) := by
 have h2 := (dig_iff c).1 h
 unfold Lib.digitVal dv
 first
  | (simp only []; rw [if_pos (by simp; omega)])
  | (split <;> simp_all)
theorem decFrom_digits : ∀ (l : List UInt8) (acc : Nat), (∀ c ∈ l, dig c = true) → Lib.decFrom acc l = some (acc * 10 ^ l.length + nat10 l)
 | [], acc, _ => by simp [Lib.decFrom, nat10, val]
 | c :: r, acc, h => by
   have hc := digitVal_dig (h c (by simp))
   rw [Lib.decFrom, hc]
   simp only
   rw [decFrom_digits r _ (fun x hx => h x (by simp [hx])), show c :: r = [c] ++ r from rfl, nat10_append, List.length_append, List.length_singleton, Nat.pow_add, Nat.pow_one, Nat.add_mul]
   have : nat10 [c] = dv c := by simp [nat10, val]
   rw [this, Nat.mul_comm (dv c), Nat.mul_assoc]
   congr 1; omega
theorem atoi_digits {l : List UInt8} (h0 : l ≠ []) (h : ∀ c ∈ l, dig c = true) : Lib.atoi l = some (nat10 l : Int) := by
 cases l with
 | nil => exact absurd rfl h0
 | cons c r =>
   have hc := (dig_iff c).1 (h c (by simp))
   have h45 : (c == 45) = false := by
    rw [beq_eq_false_iff_ne]; intro e; subst e; exact absurd hc (by decide)
   have h43 : (c == 43) = false := by
    rw [beq_eq_false_iff_ne]; intro e; subst e; exact absurd hc (by decide)
   rw [Lib.atoi, h45, h43]
   simp only [Bool.false_eq_true, if_false]
   unfold Lib.decNat
   rw [if_neg (by simp), decFrom_digits _ 0 h]
   simp
theorem group_step {l : List UInt8} {L : List Nat} {k : Nat} {T : Nat} (hk : k ≤ l.length) (h : val 10000 L + 10000 ^ L.length * nat10 (l.take k) = T) :
 val 10000 (L ++ [nat10 ((l.take k).drop (k - 4))]) + 10000 ^ (L ++ [nat10 ((l.take k).drop (k - 4))]).length * nat10 (l.take (k - 4)) = T := by
 rw [val_snoc, List.length_append, List.length_singleton, Nat.pow_succ]
 have e : l.take k = l.take (k - 4) ++ (l.take k).drop (k - 4) := by
  conv => lhs; rw [← List.take_append_drop (k - 4) (l.take k)]
  rw [List.take_take, Nat.min_eq_left (by omega)]
 have e2 : nat10 (l.take k) = nat10 ((l.take k).drop (k - 4)) + 10000 * nat10 (l.take (k - 4)) := by
  conv => lhs; rw [e]
  rw [nat10_append]
  by_cases h4 : 4 ≤ k
  · have : ((l.take k).drop (k - 4)).length = 4 := by rw [List.length_drop, List.length_take]; omega
    rw [this]
  · have : k - 4 = 0 := by omega
    rw [this, List.take_zero]; simp [nat10, val]
 rw [e2, Nat.mul_add] at h
 rw [Nat.mul_assoc]
 omega
theorem group_lt {l : List UInt8} {k : Nat} (hk : k ≤ l.length) (hd : ∀ c ∈ l, dig c = true) : nat10 ((l.take k).drop (k - 4)) < 10000 := by
 have h1 := nat10_lt (l := (l.take k).drop (k - 4)) (fun c hc => hd c (List.mem_of_mem_take (List.mem_of_mem_drop hc)))
 have h2 : ((l.take k).drop (k - 4)).length ≤ 4 := by rw [List.length_drop, List.length_take]; omega
 have h3 : 10 ^ ((l.take k).drop (k - 4)).length ≤ 10 ^ 4 := Nat.pow_le_pow_right (by decide) h2
 omega
end Yk
namespace Yk
def digSum (B : Nat) (d : Nat → Int) : Nat → Int
 | 0 => 0
 | k + 1 => digSum B d k + ((B ^ k : Nat) : Int) * d k
theorem fold_step {B : Nat} {d : Nat → Int} {l : List Nat} {k r : Nat} {c c' : Int} (h : (val B l : Int) + ((B ^ k : Nat) : Int) * c = digSum B d k) (hl : l.length = k) (h1 : d k + c = r + B * c') :
 (val B (l ++ [r]) : Int) + ((B ^ (k + 1) : Nat) : Int) * c' = digSum B d (k + 1) := by
 rw [val_snoc, hl, digSum, Nat.pow_succ, Int.natCast_add, Int.natCast_mul, Int.natCast_mul]
 have e : ((B ^ k : Nat) : Int) * (r + B * c') = ((B ^ k : Nat) : Int) * (d k + c) := by rw [h1]
 rw [Int.mul_add, Int.mul_add] at e
 rw [Int.mul_assoc]
 omega
theorem fold_end {B : Nat} {d : Nat → Int} {l : List Nat} {k : Nat} (h : (val B l : Int) + ((B ^ k : Nat) : Int) * 0 = digSum B d k) : (val B l : Int) = digSum B d k := by omega
theorem fold_no_borrow {B : Nat} {d : Nat → Int} {l : List Nat} {k : Nat} (h : (val B l : Int) + ((B ^ k : Nat) : Int) * (-1) = digSum B d k) (hl : l.length = k) (hd : ∀ z ∈ l, z < B) (h0 : 0 ≤ digSum B d k) : False := by
 have := val_lt hd
 rw [hl] at this
 omega
theorem digSum_zero_from {B : Nat} {d : Nat → Int} {n : Nat} (hz : ∀ i, n ≤ i → d i = 0) : ∀ k, n ≤ k → digSum B d k = digSum B d n := by
 intro k hk
 induction k with
 | zero => have : n = 0 := by omega
           subst this; rfl
 | succ k ih =>
   by_cases e : n = k + 1
   · subst e; rfl
   · rw [digSum, ih (by omega), hz k (by omega)]; simp
theorem digSum_getD (B : Nat) (l : List Nat) (k : Nat) : digSum B (fun i => (l.getD i 0 : Int)) k = (val B (l.take k) : Int) := by
 induction k with
 | zero => simp [digSum, val]
 | succ k ih => rw [digSum, ih, val_take_succ, Int.natCast_add, Int.natCast_mul]
theorem digSum_add (B : Nat) (f g : Nat → Int) (k : Nat) : digSum B (fun i => f i + g i) k = digSum B f k + digSum B g k := by
 induction k with
 | zero => rfl
 | succ k ih => rw [digSum, ih, digSum, digSum, Int.mul_add]; omega
theorem digSum_sub (B : Nat) (f g : Nat → Int) (k : Nat) : digSum B (fun i => f i - g i) k = digSum B f k - digSum B g k := by
 induction k with
 | zero => rfl
 | succ k ih => rw [digSum, ih, digSum, digSum, Int.mul_sub]; omega
theorem digSum_mul (B : Nat) (f : Nat → Int) (n : Int) (k : Nat) : digSum B (fun i => f i * n) k = digSum B f k * n := by
 induction k with
 | zero => simp [digSum]
 | succ k ih => rw [digSum, ih, digSum, Int.add_mul, Int.mul_assoc]
end Yk
namespace Yk
def hornerStep (B x : Nat) (a : Nat) (p : Nat × Nat) : Nat := a * B + x * p.2
theorem horner_le {B x : Nat} (hB : 1 ≤ B) (l : List (Nat × Nat)) (h : ∀ p ∈ l, p.2 < B) : l.foldl (hornerStep B x) 0 + x ≤ x * B ^ l.length := by
 induction hl : l.length generalizing l with
 | zero => rw [List.eq_nil_of_length_eq_zero hl]; simp
 | succ k ih =>
   obtain ⟨ini, last, rfl⟩ : ∃ ini last, l = ini ++ [last] := ⟨l.dropLast, l.getLast (by intro e; rw [e] at hl; simp at hl), (List.dropLast_concat_getLast _).symm⟩
   have h1 := ih ini (fun p hp => h p (by simp [hp])) (by simp at hl; omega)
   have h2 := h last (by simp)
   rw [List.foldl_append, List.foldl_cons, List.foldl_nil, hornerStep, Nat.pow_succ]
   generalize ini.foldl (hornerStep B x) 0 = f at *
   have h3 : (f + x) * B ≤ x * B ^ k * B := Nat.mul_le_mul_right B h1
   have h4 : x * (last.2 + 1) ≤ x * B := Nat.mul_le_mul_left x h2
   rw [Nat.mul_add] at h4
   rw [Nat.add_mul] at h3
   rw [← Nat.mul_assoc]
   omega
end Yk
namespace Yk
open Go
abbrev SE := ByteArray × Int
def chkI (n : Int) : SE := if n.natAbs < BIG then (ofI n, 0) else (ByteArray.empty, 30)
def vS (s : ByteArray) : Bool := vld s.data.toList
def nS (s : ByteArray) : Int := toI s.data.toList
def iAdd (a b : ByteArray) : SE := if vS a && vS b then chkI (nS a + nS b) else (ByteArray.empty, 30)
def iSub (a b : ByteArray) : SE := if vS a && vS b then chkI (nS a - nS b) else (ByteArray.empty, 30)
def iMul (a b : ByteArray) : SE := if vS a && vS b then chkI (nS a * nS b) else (ByteArray.empty, 30)
def iDiv (a b : ByteArray) : ByteArray × ByteArray × Int := if vS a && vS b && decide (nS b ≠ 0) then (ofI (nS a / nS b), ofI (nS a % nS b), 0) else (ByteArray.empty, ByteArray.empty, 30)
def iGcd (a b : ByteArray) : SE := if vS a && vS b then (ofI (Int.gcd (nS a) (nS b)), 0) else (ByteArray.empty, 30)
def cmpI (x y : Int) : Int := if x < y then -1 else if y < x then 1 else 0
def iCmp (a b : ByteArray) : Int := if vS a && vS b then cmpI (nS a) (nS b) else 0
def sgn (neg : Bool) (x : Nat) : Int := if neg then -(x : Int) else x
theorem sgn_abs (neg : Bool) (x : Nat) : (sgn neg x).natAbs = x := by unfold sgn; split <;> omega
theorem nS_sgn (s : ByteArray) : nS s = sgn (negB s.data.toList) (nS s).natAbs := by
 unfold nS sgn negB
 rw [toI_abs]
 unfold toI
 by_cases h : s.data.toList.head? = some 45 <;> simp [h]
theorem nS_lt {s : ByteArray} (h : vS s = true) : (nS s).natAbs < BIG := toI_lt h
theorem vS_ofI {n : Int} (h : n.natAbs < BIG) : vS (ofI n) = true := vld_ofI h
theorem nS_ofI (n : Int) : nS (ofI n) = n := toI_ofI n
theorem ofI_nS {s : ByteArray} (h : vS s = true) : ofI (nS s) = s := ba_ext (by rw [ofI_list]; exact itoa_toI h)
theorem digs_len_200 {x : Nat} (h : x < BIG) : (digs 10 x).length ≤ 200 := (digs_length_le (by decide) x 200).2 h
theorem vS_size {s : ByteArray} (h : vS s = true) : s.size ≤ 201 := by
 have h1 := (vld_parts h).2.1
 unfold body at h1
 have h2 := ba_len s
 split at h1
 · rw [List.length_tail] at h1; omega
 · omega
theorem zero_lt_BIG : 0 < BIG := by unfold BIG; decide +kernel
theorem one_lt_BIG : 1 < BIG := by unfold BIG; decide +kernel
theorem div_sizes_pos (x : Nat) (neg2 : Bool) (y : Nat) : ((x : Int) / sgn neg2 y = sgn neg2 (x / y)) ∧ ((x : Int) % sgn neg2 y = ((x % y : Nat) : Int)) := by
 cases neg2
 · simp [sgn]
 · simp [sgn, Int.ediv_neg, Int.emod_neg]
theorem div_sizes_neg {x y : Nat} (hy : 0 < y) (neg2 : Bool) : ((-(x : Int)) / sgn neg2 y = sgn (!neg2) (if x % y = 0 then x / y else x / y + 1)) ∧ ((-(x : Int)) % sgn neg2 y = ((if x % y = 0 then 0 else y - x % y : Nat) : Int)) := by
 have hlt := Nat.mod_lt x hy
 have hdm := Nat.div_add_mod x y
 have main : ∀ q r : Int, -(x : Int) = (y : Int) * q + r → 0 ≤ r → r < y → (-(x : Int)) / (y : Int) = q ∧ (-(x : Int)) % (y : Int) = r := by
  intro q r h h0 h1
  have e1 : (-(x : Int)) / (y : Int) = q := by
   rw [h, Int.add_comm, Int.add_mul_ediv_left _ _ (by omega), Int.ediv_eq_zero_of_lt h0 h1]; omega
  refine ⟨e1, ?_⟩
  rw [h, Int.add_comm, Int.add_mul_emod_self_left, Int.emod_eq_of_lt h0 h1]
 by_cases hr : x % y = 0
 · have h1 := main (-(x / y : Nat)) 0 (by
    have e : (x : Int) = (y : Int) * ((x / y : Nat) : Int) := by rw [← Int.natCast_mul]; omega
    rw [Int.mul_neg]; omega) (by omega) (by omega)
   cases neg2
   · simp only [sgn, hr, if_true, Bool.not_false]; exact ⟨h1.1, h1.2⟩
   · simp only [sgn, hr, if_true, Bool.not_true, Int.ediv_neg, Int.emod_neg, h1.1, h1.2]; simp
 · have h1 := main (-((x / y + 1 : Nat) : Int)) ((y - x % y : Nat) : Int) (by
    have e : (x : Int) = (y : Int) * ((x / y : Nat) : Int) + ((x % y : Nat) : Int) := by rw [← Int.natCast_mul]; omega
    rw [Int.mul_neg, Int.natCast_add, Int.mul_add]; omega) (by omega) (by omega)
   cases neg2
   · simp only [sgn, hr, if_false, if_true, Bool.not_false]; exact ⟨h1.1, h1.2⟩
   · simp only [sgn, hr, if_false, if_true, Bool.not_true, Int.ediv_neg, Int.emod_neg, h1.1, h1.2]; simp
theorem cmp_sgn_pos (x y : Nat) : cmpI (x : Int) (y : Int) = cmpN x y := by unfold cmpI cmpN; simp only [Int.ofNat_lt]
theorem cmp_sgn_neg (x y : Nat) : cmpI (-(x : Int)) (-(y : Int)) = cmpN y x := by
 unfold cmpI cmpN
 by_cases h : x < y
 · rw [if_neg (by omega), if_pos (by omega), if_neg (by omega), if_pos h]
 · by_cases h2 : y < x
   · rw [if_pos (by omega), if_pos h2]
   · rw [if_neg (by omega), if_neg (by omega), if_neg h2, if_neg h]
abbrev RS := ByteArray × ByteArray
def noR : RS := (ByteArray.empty, ByteArray.empty)
def rV (a : RS) : Bool := vS a.1 && vS a.2 && decide (0 < nS a.2) && decide (Int.gcd (nS a.1) (nS a.2) = 1)
def qV (a : RS) : Rat := Rat.divInt (nS a.1) (nS a.2)
def rT (q : Rat) : RS := (ofI q.num, ofI q.den)
def small (n : Int) : Bool := decide (n.natAbs < BIG)
def rMk (n d : Int) : RS × Int := if small n && small d && decide (d ≠ 0) then (rT (Rat.divInt n d), 0) else (noR, 40)
def rMake (n d : ByteArray) : RS × Int := if vS n && vS d && decide (nS d ≠ 0) then (rT (Rat.divInt (nS n) (nS d)), 0) else (noR, 40)
def rAdd (a b : RS) : RS × Int := if rV a && rV b && small (nS a.1 * nS b.2) && small (nS b.1 * nS a.2) then rMk (nS a.1 * nS b.2 + nS b.1 * nS a.2) (nS a.2 * nS b.2) else (noR, 40)
def rSub (a b : RS) : RS × Int := if rV a && rV b && small (nS a.1 * nS b.2) && small (nS b.1 * nS a.2) then rMk (nS a.1 * nS b.2 - nS b.1 * nS a.2) (nS a.2 * nS b.2) else (noR, 40)
def rMul (a b : RS) : RS × Int := if rV a && rV b then rMk (nS a.1 * nS b.1) (nS a.2 * nS b.2) else (noR, 40)
def rDiv (a b : RS) : RS × Int := if rV a && rV b then rMk (nS a.1 * nS b.2) (nS a.2 * nS b.1) else (noR, 40)
def cmpQ (x y : Rat) : Int := if x < y then -1 else if y < x then 1 else 0
def rCmp (a b : RS) : Int := if rV a && rV b then cmpQ (qV a) (qV b) else 0
def rPrint (a : RS) : ByteArray := if rV a then (if nS a.2 = 1 then a.1 else ⟨(a.1.data.toList ++ [47] ++ a.2.data.toList).toArray⟩) else ByteArray.empty
def rSplit (l : List UInt8) : List UInt8 × List UInt8 := if l.contains 47 then (l.takeWhile (· != 47), (l.dropWhile (· != 47)).tail) else (l, [49])
def rOf (s : ByteArray) : RS := (⟨(rSplit s.data.toList).1.toArray⟩, ⟨(rSplit s.data.toList).2.toArray⟩)
def rParse (s : ByteArray) : RS × Int := if rV (rOf s) && decide (rPrint (rOf s) = s) then (rOf s, 0) else (noR, 40)
theorem small_iff {n : Int} : small n = true ↔ n.natAbs < BIG := by simp [small]
theorem rV_parts {a : RS} (h : rV a = true) : vS a.1 = true ∧ vS a.2 = true ∧ 0 < nS a.2 ∧ Int.gcd (nS a.1) (nS a.2) = 1 := by
 simp only [rV, Bool.and_eq_true, decide_eq_true_eq] at h
 exact ⟨h.1.1.1, h.1.1.2, h.1.2, h.2⟩
theorem divInt_pos_num {n d : Int} (hd : 0 < d) : (Rat.divInt n d).num = n / Int.gcd n d ∧ ((Rat.divInt n d).den : Int) = d / Int.gcd n d := by
 rw [Rat.num_divInt, Rat.den_divInt, if_neg (by omega), Int.sign_eq_one_of_pos hd, Int.one_mul, Int.gcd_comm d n]
 refine ⟨rfl, ?_⟩
 rw [Int.natCast_ediv]
 congr 1
 omega
theorem qV_num {a : RS} (h : rV a = true) : (qV a).num = nS a.1 ∧ ((qV a).den : Int) = nS a.2 := by
 obtain ⟨_, _, h3, h4⟩ := rV_parts h
 obtain ⟨e1, e2⟩ := divInt_pos_num (n := nS a.1) h3
 unfold qV
 rw [e1, e2, h4]
 simp
theorem qV_rT (q : Rat) : qV (rT q) = q := by
 unfold qV rT
 rw [nS_ofI, nS_ofI]
 exact Rat.num_divInt_den q
theorem rV_rT {q : Rat} (h1 : q.num.natAbs < BIG) (h2 : q.den < BIG) : rV (rT q) = true := by
 have h3 := q.den_pos
 have h4 := q.reduced
 unfold rV rT
 simp only [nS_ofI, Bool.and_eq_true, decide_eq_true_eq]
 exact ⟨⟨⟨vS_ofI h1, vS_ofI (by omega)⟩, by omega⟩, by rw [Int.gcd]; exact h4⟩
theorem divInt_le (n d : Int) (hd : d ≠ 0) : (Rat.divInt n d).num.natAbs ≤ n.natAbs ∧ (Rat.divInt n d).den ≤ d.natAbs := by
 rw [Rat.num_divInt, Rat.den_divInt, if_neg hd]
 have hg : 0 < Int.gcd d n := Int.gcd_pos_of_ne_zero_left _ hd
 refine ⟨?_, Nat.div_le_self _ _⟩
 have hdv : ((Int.gcd d n : Nat) : Int) ∣ d.sign * n := Int.dvd_trans (Int.gcd_dvd_right d n) (Int.dvd_mul_left _ _)
 rw [Int.natAbs_ediv_of_dvd hdv, Int.natAbs_natCast, Int.natAbs_mul, Int.natAbs_sign_of_ne_zero hd, Nat.one_mul]
 exact Nat.div_le_self _ _
theorem rV_mk {n d : Int} (hn : small n = true) (hd : small d = true) (h0 : d ≠ 0) : rV (rT (Rat.divInt n d)) = true := by
 have h := divInt_le n d h0
 exact rV_rT (Nat.lt_of_le_of_lt h.1 (small_iff.1 hn)) (Nat.lt_of_le_of_lt h.2 (small_iff.1 hd))
theorem rMk_ok {n d : Int} (hn : small n = true) (hd : small d = true) (h0 : d ≠ 0) : rMk n d = (rT (Rat.divInt n d), 0) := by
 unfold rMk
 rw [if_pos (by simp [hn, hd, h0])]
theorem rMk_no {n d : Int} (h : ¬ (small n = true ∧ small d = true ∧ d ≠ 0)) : rMk n d = (noR, 40) := by
 unfold rMk
 rw [if_neg]
 intro h2
 simp only [Bool.and_eq_true, decide_eq_true_eq] at h2
 exact h ⟨h2.1.1, h2.1.2, h2.2⟩
theorem rMake_eq (n d : ByteArray) : rMake n d = if vS n && vS d then rMk (nS n) (nS d) else (noR, 40) := by
 unfold rMake rMk
 by_cases h : vS n = true ∧ vS d = true
 · obtain ⟨h1, h2⟩ := h
   have e1 : small (nS n) = true := small_iff.2 (nS_lt h1)
   have e2 : small (nS d) = true := small_iff.2 (nS_lt h2)
   simp [h1, h2, e1, e2]
 · have : (vS n && vS d) = false := by
    rw [Bool.and_eq_false_iff]
    cases e1 : vS n <;> cases e2 : vS d <;> simp_all
   simp [this]
theorem small_vS (n : Int) : small n = vS (ofI n) := by
 rw [Bool.eq_iff_iff, small_iff]
 refine ⟨vS_ofI, fun h => ?_⟩
 have := nS_lt h
 rwa [nS_ofI] at this
theorem rMake_ofI (n d : Int) : rMake (ofI n) (ofI d) = rMk n d := by
 rw [rMake_eq]
 unfold rMk
 rw [← small_vS, ← small_vS, nS_ofI, nS_ofI]
 cases small n <;> cases small d <;> simp
theorem ofI_zero : ofI 0 = ⟨#[48]⟩ := by
 apply ba_ext; rw [ofI_list, itoa_pos (by decide), decDigits_digs]; simp
theorem ofI_one : ofI 1 = ⟨#[49]⟩ := by
 apply ba_ext; rw [ofI_list, itoa_pos (by decide), decDigits_digs]; simp [digs_digit (B := 10) (d := 1) (by decide) (by decide) (by decide)]
theorem nS_zero_iff {s : ByteArray} (h : vS s = true) : nS s = 0 ↔ s = ⟨#[48]⟩ := by
 rw [← ofI_zero]
 constructor
 · intro e; rw [← ofI_nS h, e]
 · intro e; rw [e, nS_ofI]
theorem nS_one_iff {s : ByteArray} (h : vS s = true) : nS s = 1 ↔ s = ⟨#[49]⟩ := by
 rw [← ofI_one]
 constructor
 · intro e; rw [← ofI_nS h, e]
 · intro e; rw [e, nS_ofI]
theorem cmpQ_divInt {n d m c : Int} (hd : 0 < d) (hc : 0 < c) : cmpQ (Rat.divInt n d) (Rat.divInt m c) = cmpI (n * c) (m * d) := by
 have hd' : (0 : Rat) < (d : Rat) := by exact_mod_cast hd
 have hc' : (0 : Rat) < (c : Rat) := by exact_mod_cast hc
 have key : ∀ (x y z t : Int), 0 < t → 0 < y → (Rat.divInt x y < Rat.divInt z t ↔ x * t < z * y) := by
  intro x y z t ht hy
  have hy' : (0 : Rat) < (y : Rat) := by exact_mod_cast hy
  have ht' : (0 : Rat) < (t : Rat) := by exact_mod_cast ht
  rw [Rat.divInt_eq_div, Rat.divInt_eq_div, Rat.div_lt_iff hy', ← Rat.intCast_lt_intCast, Rat.intCast_mul, Rat.intCast_mul]
  have e : (z : Rat) / (t : Rat) * (y : Rat) = (z : Rat) * (y : Rat) / (t : Rat) := by grind
  rw [e, Rat.lt_div_iff ht']
 unfold cmpQ cmpI
 simp only [key n d m c hc hd, key m c n d hd hc]
theorem cmp_whole {n d m c : Int} (hd : 0 < d) (hc : 0 < c) (h : n / d ≠ m / c) : cmpI (n * c) (m * d) = cmpI (n / d) (m / c) := by
 have e1 := Int.mul_ediv_add_emod n d
 have e2 := Int.mul_ediv_add_emod m c
 have a1 := Int.emod_nonneg n (show d ≠ 0 by omega)
 have a2 := Int.emod_lt_of_pos n hd
 have b1 := Int.emod_nonneg m (show c ≠ 0 by omega)
 have b2 := Int.emod_lt_of_pos m hc
 generalize n / d = q at *
 generalize m / c = p at *
 generalize n % d = r at *
 generalize m % c = s at *
 have key : ∀ (n d m c q p r s : Int), 0 < d → 0 < c → d * q + r = n → c * p + s = m → r < d → 0 ≤ s → q < p → n * c < m * d := by
  intro n d m c q p r s hd hc e1 e2 h1 h2 h
  have h3 : n < d * (q + 1) := by rw [Int.mul_add]; omega
  have h4 : c * p ≤ m := by omega
  have h5 : n * c < d * (q + 1) * c := Int.mul_lt_mul_of_pos_right h3 hc
  have h6 : c * p * d ≤ m * d := Int.mul_le_mul_of_nonneg_right h4 (by omega)
  have h7 : c * d * (q + 1) ≤ c * d * p := Int.mul_le_mul_of_nonneg_left (by omega) (Int.mul_nonneg (by omega) (by omega))
  have e3 : d * (q + 1) * c = c * d * (q + 1) := by grind
  have e4 : c * p * d = c * d * p := by grind
  omega
 unfold cmpI
 by_cases hlt : q < p
 · rw [if_pos hlt, if_pos (key n d m c q p r s hd hc e1 e2 a2 b1 hlt)]
 · have hgt : p < q := by omega
   have := key m c n d p q s r hc hd e2 e1 b2 a1 hgt
   rw [if_neg hlt, if_pos hgt, if_neg (by omega), if_pos (by omega)]
theorem cmp_rest {n d m c : Int} (hd : 0 < d) (hc : 0 < c) (h : n / d = m / c) : cmpI (n * c) (m * d) = cmpI (n % d * c) (m % c * d) := by
 have e1 := Int.mul_ediv_add_emod n d
 have e2 := Int.mul_ediv_add_emod m c
 rw [h] at e1
 generalize m / c = p at *
 generalize n % d = r at *
 generalize m % c = s at *
 have e : n * c - m * d = r * c - s * d := by rw [← e1, ← e2]; grind
 unfold cmpI
 have : (n * c < m * d) = (r * c < s * d) := by rw [eq_iff_iff]; omega
 have h2 : (m * d < n * c) = (s * d < r * c) := by rw [eq_iff_iff]; omega
 simp only [this, h2]
theorem cmpI_neg (x y : Int) : cmpI x y = - cmpI y x := by unfold cmpI; split <;> split <;> omega
theorem cmpI_self (x : Int) : cmpI x x = 0 := by unfold cmpI; simp
theorem cmp_turn (r c s d : Int) : cmpI (r * c) (s * d) = - cmpI (d * s) (c * r) := by rw [cmpI_neg, Int.mul_comm s d, Int.mul_comm r c]
theorem cmp_zero_l {s d : Int} (c : Int) (hs : 0 < s) (hd : 0 < d) : cmpI (0 * c) (s * d) = -1 := by
 have := Int.mul_pos hs hd
 unfold cmpI; rw [Int.zero_mul, if_pos this]
theorem cmp_zero_r {r c : Int} (d : Int) (hr : 0 < r) (hc : 0 < c) : cmpI (r * c) (0 * d) = 1 := by
 have := Int.mul_pos hr hc
 unfold cmpI; rw [Int.zero_mul, if_neg (by omega), if_pos this]
theorem cmpQ_le {x y : Rat} : cmpQ x y ≤ 0 ↔ x ≤ y := by
 unfold cmpQ
 by_cases h1 : x < y
 · simp [h1]; grind
 · by_cases h2 : y < x
   · simp [h1, h2]; grind
   · simp [h1, h2]; grind
theorem qV_zero_iff {a : RS} (h : rV a = true) : qV a = 0 ↔ nS a.1 = 0 := by
 rw [← Rat.num_eq_zero, (qV_num h).1]
def Gives (x : RS × Int) (q : Rat) : Prop := x = (rT q, 0) ∧ rV (rT q) = true
theorem Gives.fst {x : RS × Int} {q : Rat} (h : Gives x q) : x.1 = rT q := by rw [h.1]
theorem Gives.snd {x : RS × Int} {q : Rat} (h : Gives x q) : x.2 = 0 := by rw [h.1]
theorem Gives.valid {x : RS × Int} {q : Rat} (h : Gives x q) : rV x.1 = true := by rw [h.1]; exact h.2
theorem Gives.val {x : RS × Int} {q : Rat} (h : Gives x q) : qV x.1 = q := by rw [h.1]; exact qV_rT q
theorem rMk_cases (n d : Int) : (small n = true ∧ small d = true ∧ d ≠ 0 ∧ Gives (rMk n d) (Rat.divInt n d)) ∨ (¬ (small n = true ∧ small d = true ∧ d ≠ 0) ∧ rMk n d = (noR, 40)) := by
 by_cases h : small n = true ∧ small d = true ∧ d ≠ 0
 · exact .inl ⟨h.1, h.2.1, h.2.2, rMk_ok h.1 h.2.1 h.2.2, rV_mk h.1 h.2.1 h.2.2⟩
 · exact .inr ⟨h, rMk_no h⟩
theorem rMk_gives {n d : Int} (h : (rMk n d).2 = 0) : Gives (rMk n d) (Rat.divInt n d) ∧ d ≠ 0 := by
 rcases rMk_cases n d with h2 | ⟨_, h2⟩
 · exact ⟨h2.2.2.2, h2.2.2.1⟩
 · rw [h2] at h; simp at h
theorem rDiv_gives {a b : RS} (h : (rDiv a b).2 = 0) : rV a = true ∧ rV b = true ∧ qV b ≠ 0 ∧ Gives (rDiv a b) (qV a / qV b) := by
 unfold rDiv at h ⊢
 split at h
 · rename_i hc
   simp only [Bool.and_eq_true] at hc
   have hg := rMk_gives h
   have hb0 : nS b.1 ≠ 0 := by intro e; rw [e] at hg; simp at hg
   refine ⟨hc.1, hc.2, fun e => hb0 ((qV_zero_iff hc.2).1 e), ?_⟩
   rw [if_pos (by simp [hc])]
   have e : Rat.divInt (nS a.1 * nS b.2) (nS a.2 * nS b.1) = qV a / qV b := by
    rw [Rat.div_def]
    unfold qV
    rw [Rat.inv_divInt, Rat.divInt_mul_divInt]
   have hg := hg.1
   rwa [e] at hg
 · simp at h
theorem no_slash {l : List UInt8} (h : vld l = true) : l.contains 47 = false := by
 rw [Bool.eq_false_iff]
 intro hc
 rw [List.contains_iff_mem] at hc
 have hb : (47 : UInt8) ∈ body l := by
  unfold body
  split
  · rename_i hh
    cases l with
    | nil => cases hc
    | cons a t =>
      simp at hh
      subst hh
      rcases List.mem_cons.1 hc with e | e
      · exact absurd e (by decide)
      · exact e
  · exact hc
 have := (vld_parts h).2.2.1 47 hb
 exact absurd this (by decide)
theorem takeWhile_slash {l m : List UInt8} (h : l.contains 47 = false) : (l ++ [47] ++ m).takeWhile (· != 47) = l ∧ (l ++ [47] ++ m).dropWhile (· != 47) = 47 :: m := by
 induction l with
 | nil => simp
 | cons a t ih =>
   have h1 : a ≠ 47 := by intro e; subst e; simp at h
   have h2 : t.contains 47 = false := by simp at h ⊢; exact h.2
   obtain ⟨i1, i2⟩ := ih h2
   have h3 : (a != 47) = true := by simp [h1]
   simp only [List.cons_append, List.takeWhile_cons, List.dropWhile_cons, h3, if_true]
   simp only [List.append_assoc, List.cons_append, List.nil_append] at i1 i2 ⊢
   exact ⟨by rw [i1], i2⟩
theorem rSplit_slash {l m : List UInt8} (h : l.contains 47 = false) : rSplit (l ++ [47] ++ m) = (l, m) := by
 unfold rSplit
 obtain ⟨h1, h2⟩ := takeWhile_slash (m := m) h
 rw [if_pos (by simp), h1, h2]
 rfl
theorem rSplit_none {l : List UInt8} (h : l.contains 47 = false) : rSplit l = (l, [49]) := by
 unfold rSplit
 rw [if_neg (by rw [h]; simp)]
theorem rPrint_one {a : RS} (h : rV a = true) (h1 : a.2 = ⟨#[49]⟩) : rPrint a = a.1 := by
 unfold rPrint
 rw [if_pos h, if_pos ((nS_one_iff (rV_parts h).2.1).2 h1)]
theorem rPrint_two {a : RS} (h : rV a = true) (h1 : a.2 ≠ ⟨#[49]⟩) : rPrint a = ⟨(a.1.data.toList ++ [47] ++ a.2.data.toList).toArray⟩ := by
 unfold rPrint
 rw [if_pos h, if_neg (fun e => h1 ((nS_one_iff (rV_parts h).2.1).1 e))]
theorem rPrint_no {a : RS} (h : rV a = false) : rPrint a = ByteArray.empty := by
 unfold rPrint
 rw [if_neg (by rw [h]; simp)]
theorem ba_mk (s : ByteArray) : (⟨s.data.toList.toArray⟩ : ByteArray) = s := ba_ext (by simp)
theorem rOf_print {a : RS} (h : rV a = true) : rOf (rPrint a) = a := by
 obtain ⟨h1, h2, _, _⟩ := rV_parts h
 have hn := no_slash h1
 by_cases e : a.2 = ⟨#[49]⟩
 · rw [rPrint_one h e]
   unfold rOf
   rw [rSplit_none hn]
   exact Prod.ext (ba_mk _) e.symm
 · rw [rPrint_two h e]
   unfold rOf
   simp only [List.toList_toArray]
   rw [rSplit_slash hn]
theorem rPrint_ne {a : RS} (h : rV a = true) : rPrint a ≠ ByteArray.empty := by
 obtain ⟨h1, h2, _, _⟩ := rV_parts h
 intro e
 have := congrArg (fun s => s.data.toList.length) e
 by_cases e1 : a.2 = ⟨#[49]⟩
 · rw [rPrint_one h e1] at this
   have h3 := (vld_parts h1).1
   simp only [ba_len] at this
   have h4 : a.1.data.toList = [] := List.eq_nil_of_length_eq_zero (by rw [ba_len]; exact this)
   rw [h4] at h3
   exact h3 rfl
 · rw [rPrint_two h e1] at this
   simp at this
theorem rParse_print {a : RS} (h : rV a = true) : rParse (rPrint a) = (a, 0) := by
 unfold rParse
 rw [rOf_print h, h]
 simp
theorem rParse_empty : rParse ByteArray.empty = (noR, 40) := by
 unfold rParse
 rw [if_neg]
 intro h
 simp only [Bool.and_eq_true, decide_eq_true_eq] at h
 exact rPrint_ne h.1 h.2
theorem small_lt {n : Int} {k : Nat} (h : n.natAbs < 10 ^ k) (hk : k ≤ 200) : small n = true :=
 small_iff.2 (Nat.lt_of_lt_of_le h (Nat.pow_le_pow_right (by decide) hk))
theorem mul_pow_lt {a b i j : Nat} (ha : a < 10 ^ i) (hb : b < 10 ^ j) : a * b < 10 ^ (i + j) := by
 rw [Nat.pow_add]; exact Nat.mul_lt_mul'' ha hb
theorem small_mul {a b : Int} {i j : Nat} (ha : a.natAbs < 10 ^ i) (hb : b.natAbs < 10 ^ j) (h : i + j ≤ 200) : small (a * b) = true :=
 small_lt (k := i + j) (by rw [Int.natAbs_mul]; exact mul_pow_lt ha hb) h
theorem abs_add_lt {a b : Int} {k : Nat} (ha : a.natAbs < 10 ^ k) (hb : b.natAbs < 10 ^ k) : (a + b).natAbs < 10 ^ (k + 1) ∧ (a - b).natAbs < 10 ^ (k + 1) := by
 rw [Nat.pow_succ]; omega
theorem rAdd_ok {a b : RS} (ha : rV a = true) (hb : rV b = true) (h1 : small (nS a.1 * nS b.2) = true) (h2 : small (nS b.1 * nS a.2) = true) (h3 : small (nS a.1 * nS b.2 + nS b.1 * nS a.2) = true) (h4 : small (nS a.2 * nS b.2) = true) : (rAdd a b).2 = 0 := by
 unfold rAdd
 rw [if_pos (by simp [ha, hb, h1, h2]), rMk_ok h3 h4 (by have h5 := Int.mul_pos (rV_parts ha).2.2.1 (rV_parts hb).2.2.1; omega)]
theorem rSub_ok {a b : RS} (ha : rV a = true) (hb : rV b = true) (h1 : small (nS a.1 * nS b.2) = true) (h2 : small (nS b.1 * nS a.2) = true) (h3 : small (nS a.1 * nS b.2 - nS b.1 * nS a.2) = true) (h4 : small (nS a.2 * nS b.2) = true) : (rSub a b).2 = 0 := by
 unfold rSub
 rw [if_pos (by simp [ha, hb, h1, h2]), rMk_ok h3 h4 (by have h5 := Int.mul_pos (rV_parts ha).2.2.1 (rV_parts hb).2.2.1; omega)]
theorem rMul_ok {a b : RS} (ha : rV a = true) (hb : rV b = true) (h3 : small (nS a.1 * nS b.1) = true) (h4 : small (nS a.2 * nS b.2) = true) : (rMul a b).2 = 0 := by
 unfold rMul
 rw [if_pos (by simp [ha, hb]), rMk_ok h3 h4 (by have h5 := Int.mul_pos (rV_parts ha).2.2.1 (rV_parts hb).2.2.1; omega)]
theorem rDiv_ok {a b : RS} (ha : rV a = true) (hb : rV b = true) (h0 : nS b.1 ≠ 0) (h3 : small (nS a.1 * nS b.2) = true) (h4 : small (nS a.2 * nS b.1) = true) : (rDiv a b).2 = 0 := by
 unfold rDiv
 rw [if_pos (by simp [ha, hb]), rMk_ok h3 h4 (by have h5 := (rV_parts ha).2.2.1; exact Int.mul_ne_zero (by omega) h0)]
def Few (k : Nat) (q : Rat) : Prop := q.num.natAbs < 10 ^ k ∧ q.den < 10 ^ k
def FewR (k : Nat) (a : RS) : Prop := rV a = true ∧ (nS a.1).natAbs < 10 ^ k ∧ (nS a.2).natAbs < 10 ^ k
theorem Few.rT {k : Nat} {q : Rat} (h : Few k q) (hk : k ≤ 200) : FewR k (rT q) := by
 have h200 : (10 : Nat) ^ k ≤ BIG := Nat.pow_le_pow_right (by decide) hk
 refine ⟨rV_rT (Nat.lt_of_lt_of_le h.1 h200) (Nat.lt_of_lt_of_le h.2 h200), ?_, ?_⟩
 · show (nS (ofI q.num)).natAbs < _; rw [nS_ofI]; exact h.1
 · show (nS (ofI q.den)).natAbs < _; rw [nS_ofI]; exact h.2
theorem Few.divInt {k : Nat} {n d : Int} (hd : d ≠ 0) (h1 : n.natAbs < 10 ^ k) (h2 : d.natAbs < 10 ^ k) : Few k (Rat.divInt n d) := by
 have := divInt_le n d hd
 exact ⟨by omega, by omega⟩
section
variable {a b : RS} {i j : Nat}
theorem FewR.add (ha : FewR i a) (hb : FewR j b) (h : i + j < 200) : (rAdd a b).2 = 0 := by
 have h1 := small_mul ha.2.1 hb.2.2 (by omega)
 have h2 := small_mul hb.2.1 ha.2.2 (by omega)
 have h3 := small_mul ha.2.2 hb.2.2 (by omega)
 refine rAdd_ok ha.1 hb.1 h1 h2 (small_lt (k := i + j + 1) (abs_add_lt (k := i + j) ?_ ?_).1 (by omega)) h3
 · rw [Int.natAbs_mul]; exact mul_pow_lt ha.2.1 hb.2.2
 · rw [Int.natAbs_mul, Nat.add_comm]; exact mul_pow_lt hb.2.1 ha.2.2
theorem FewR.sub (ha : FewR i a) (hb : FewR j b) (h : i + j < 200) : (rSub a b).2 = 0 := by
 have h1 := small_mul ha.2.1 hb.2.2 (by omega)
 have h2 := small_mul hb.2.1 ha.2.2 (by omega)
 have h3 := small_mul ha.2.2 hb.2.2 (by omega)
 refine rSub_ok ha.1 hb.1 h1 h2 (small_lt (k := i + j + 1) (abs_add_lt (k := i + j) ?_ ?_).2 (by omega)) h3
 · rw [Int.natAbs_mul]; exact mul_pow_lt ha.2.1 hb.2.2
 · rw [Int.natAbs_mul, Nat.add_comm]; exact mul_pow_lt hb.2.1 ha.2.2
theorem FewR.mul (ha : FewR i a) (hb : FewR j b) (h : i + j ≤ 200) : (rMul a b).2 = 0 :=
 rMul_ok ha.1 hb.1 (small_mul ha.2.1 hb.2.1 h) (small_mul ha.2.2 hb.2.2 h)
theorem FewR.div (ha : FewR i a) (hb : FewR j b) (h0 : qV b ≠ 0) (h : i + j ≤ 200) : (rDiv a b).2 = 0 :=
 rDiv_ok ha.1 hb.1 (fun e => h0 ((qV_zero_iff hb.1).2 e)) (small_mul ha.2.1 hb.2.2 h) (small_mul ha.2.2 hb.2.1 h)
end
theorem Gives.eq {x y : RS × Int} {p q : Rat} (hx : Gives x p) (hy : Gives y q) (h : p = q) : x.1 = y.1 := by rw [hx.fst, hy.fst, h]
theorem rCmp_val {a b : RS} (ha : rV a = true) (hb : rV b = true) : rCmp a b = cmpQ (qV a) (qV b) := by
 unfold rCmp; rw [if_pos (by simp [ha, hb])]
def pad4 (d : Nat) : List UInt8 := List.replicate (4 - (Lib.decDigits d).length) 48 ++ Lib.decDigits d
theorem decDigits_len_group {d : Nat} (hd : d < 10000) : 1 ≤ (Lib.decDigits d).length ∧ (Lib.decDigits d).length ≤ 4 := by
 refine ⟨?_, (decDigits_length_le d 4 (by decide)).2 hd⟩
 have := decDigits_ne_nil d
 cases h : Lib.decDigits d with
 | nil => exact absurd h this
 | cons a t => simp
theorem digs_group {T d : Nat} (hT : 0 < T) (hd : d < 10000) : digs 10 (d + 10000 * T) = digs 10 d ++ List.replicate (4 - (digs 10 d).length) 0 ++ digs 10 T := by
 symm
 have hlen : (digs 10 d).length ≤ 4 := (digs_length_le (by decide) d 4).2 (by omega)
 have hne : digs 10 T ≠ [] := fun e => by have := (digs_eq_nil (B := 10) (by decide)).1 e; omega
 refine canon_eq (by decide) ⟨?_, ?_⟩ ?_
 · intro z hz
   rw [List.mem_append, List.mem_append] at hz
   rcases hz with (h | h) | h
   · exact digs_lt (by decide) d z h
   · have := List.eq_of_mem_replicate h; omega
   · exact digs_lt (by decide) T z h
 · rw [List.getLast?_append]
   have h2 := digs_last (B := 10) (by decide) T
   cases h3 : (digs 10 T).getLast? with
   | none => exact absurd (List.getLast?_eq_none_iff.1 h3) hne
   | some z => rw [h3] at h2; simpa using h2
 · have e0 : ∀ n, val 10 (List.replicate n 0) = 0 := by
    intro n
    induction n with
    | zero => rfl
    | succ n ih => rw [List.replicate_succ, val, ih]
   rw [val_append, val_append, e0, val_digs (by decide), val_digs (by decide), List.length_append, List.length_replicate]
   have : (digs 10 d).length + (4 - (digs 10 d).length) = 4 := by omega
   rw [this]; omega
theorem decDigits_group {T d : Nat} (hT : 0 < T) (hd : d < 10000) : Lib.decDigits (d + 10000 * T) = Lib.decDigits T ++ pad4 d := by
 unfold pad4
 rw [decDigits_digs (d + 10000 * T), decDigits_digs T, if_neg (by omega), if_neg (by omega), digs_group hT hd, List.reverse_append, List.reverse_append, List.map_append, List.map_append]
 congr 1
 rw [decDigits_digs d]
 by_cases h0 : d = 0
 · subst h0
   rw [if_pos rfl, digs_zero]; decide
 · rw [if_neg h0, List.reverse_replicate, List.map_replicate]
   simp
def topV (l : List Nat) (k : Nat) : Nat := val 10000 (l.drop (l.length - k))
theorem topV_succ {l : List Nat} {k : Nat} (h : k < l.length) : topV l (k + 1) = l[l.length - 1 - k] + 10000 * topV l k := by
 unfold topV
 have e : l.length - (k + 1) = l.length - 1 - k := by omega
 rw [e, List.drop_eq_getElem_cons (by omega), val]
 congr 4; omega
theorem topV_pos {l : List Nat} (hl : l.getLast? ≠ some 0) {k : Nat} (h0 : 0 < k) (h : k ≤ l.length) : 0 < topV l k := by
 unfold topV
 have hne : l.drop (l.length - k) ≠ [] := by
  intro e; have := congrArg List.length e; rw [List.length_drop] at this; simp at this; omega
 refine val_pos_of_canon (by decide) hne ?_
 rw [List.getLast?_drop, if_neg (by omega)]
 exact hl
theorem topV_all (l : List Nat) : topV l l.length = val 10000 l := by unfold topV; rw [Nat.sub_self, List.drop_zero]
def topT (l : List Nat) (k : Nat) : List UInt8 := if k = 0 then [] else Lib.decDigits (topV l k)
theorem topT_first {l : List Nat} (h : 0 < l.length) : topT l 1 = topT l 0 ++ Lib.decDigits l[l.length - 1] := by
 unfold topT
 rw [if_neg (by decide), if_pos rfl, topV_succ h, List.nil_append]
 simp [topV, val]
theorem topT_next {l : List Nat} (hl : l.getLast? ≠ some 0) (hd : ∀ z ∈ l, z < 10000) {k : Nat} (h0 : 0 < k) (h : k < l.length) : topT l (k + 1) = topT l k ++ pad4 l[l.length - 1 - k] := by
 unfold topT
 rw [if_neg (by omega), if_neg (by omega), topV_succ h]
 exact decDigits_group (topV_pos hl h0 (by omega)) (hd _ (List.getElem_mem _))
theorem topT_end {x : Nat} (h : x ≠ 0) : topT (digs 10000 x) (digs 10000 x).length = Lib.decDigits x := by
 unfold topT
 rw [if_neg, topV_all, val_digs (by decide)]
 intro e
 have := (digs_eq_nil (B := 10000) (by decide)).1 (List.eq_nil_of_length_eq_zero e)
 exact h this
theorem ofI_lit {s : ByteArray} {n : Int} (hv : vS s = true) (hn : nS s = n) : ofI n = s := by rw [← hn, ofI_nS hv]
theorem rMk_lit {n d : Int} (q : Rat) {t : RS} (hn : n.natAbs < 10 ^ 9) (hd : d.natAbs < 10 ^ 9) (h0 : d ≠ 0) (hq : Rat.divInt n d = q) (v1 : vS t.1 = true) (v2 : vS t.2 = true) (h1 : nS t.1 = q.num) (h2 : nS t.2 = q.den) : rMk n d = (t, 0) := by
 rw [rMk_ok (small_lt hn (by decide)) (small_lt hd (by decide)) h0, hq]
 unfold rT
 rw [ofI_lit v1 h1, ofI_lit v2 h2]
end Yk
namespace Go.Sy
open Go.RowKit
section
inductive SV where
 | val (v : Value)
 | ptr (id e o : Nat)
 | slc (id e len : Nat)
 | agg (cs : List SV)
 | tup (vs : List SV)
 | fn (f : Fn) (first caps : List SV)
 deriving Inhabited
structure Loc where
 blk : Nat
 off : Nat
 sz : Nat
 cap : Nat
 nil : Bool
def addr (β : Nat → Loc) (id e o : Nat) : Addr := ⟨(β id).blk, (β id).off + e * (β id).sz + o, none⟩
mutual
def SV.conc (β : Nat → Loc) : SV → Value
 | .val v => v
 | .ptr id e o => .pointer (some (addr β id e o))
 | .slc id e len => .slice (bif (β id).nil then none else some (addr β id (bif Nat.beq (β id).cap e then 0 else e) 0)) len ((β id).cap - e)
 | .agg cs => .agg (SV.concs β cs).toArray
 | .tup vs => .tuple (SV.concs β vs).toArray
 | .fn f a c => .func f (SV.concs β a).toArray (SV.concs β c).toArray
def SV.concs (β : Nat → Loc) : List SV → List Value
 | [] => []
 | x :: xs => SV.conc β x :: SV.concs β xs
end
theorem nbeq (i j : Nat) : Nat.beq i j = decide (i = j) := by
 by_cases h : i = j
 · subst h; simp
 · have : Nat.beq i j = false := by
    cases hh : Nat.beq i j with
    | false => rfl
    | true => exact absurd (Nat.eq_of_beq_eq_true hh) h
   simp [this, h]
theorem blt_iff {i b : Nat} : Nat.blt i b = decide (i < b) := by
 by_cases h : i < b
 · rw [decide_eq_true h]; exact Nat.ble_eq_true_of_le h
 · rw [decide_eq_false h]
   cases hb : Nat.blt i b with
   | true => exact absurd (Nat.le_of_ble_eq_true hb) h
   | false => rfl
theorem conc_slc {β : Nat → Loc} {id e len : Nat} (hn : (β id).nil = false) (he : (β id).cap ≠ e ∨ e = 0) : (SV.slc id e len).conc β = .slice (some (addr β id e 0)) len ((β id).cap - e) := by
 simp only [SV.conc, hn, cond_false]
 rcases he with he | rfl
 · rw [nbeq]; simp [he]
 · simp
theorem SV.concs_eq (β : Nat → Loc) (l : List SV) : SV.concs β l = l.map (SV.conc β) := by
 induction l with
 | nil => simp [SV.concs]
 | cons x xs ih => simp [SV.concs, ih]
mutual
def SV.ids : SV → List Nat
 | .val _ => []
 | .ptr id _ _ => [id]
 | .slc id _ _ => [id]
 | .agg cs => SV.idss cs
 | .tup vs => SV.idss vs
 | .fn _ a c => SV.idss a ++ SV.idss c
def SV.idss : List SV → List Nat
 | [] => []
 | x :: xs => SV.ids x ++ SV.idss xs
end
theorem SV.mem_idss {l : List SV} {i : Nat} : i ∈ SV.idss l ↔ ∃ x ∈ l, i ∈ SV.ids x := by
 induction l with
 | nil => simp [SV.idss]
 | cons x xs ih => simp [SV.idss, ih]
mutual
theorem SV.conc_congr {β β' : Nat → Loc} : ∀ (s : SV), (∀ i ∈ s.ids, β' i = β i) → s.conc β' = s.conc β
 | .val _, _ => by simp [SV.conc]
 | .ptr id e o, h => by simp [SV.conc, addr, h id (by simp [SV.ids])]
 | .slc id e l, h => by simp [SV.conc, addr, h id (by simp [SV.ids])]
 | .agg cs, h => by simp [SV.conc, SV.concs_congr cs (by simpa [SV.ids] using h)]
 | .tup cs, h => by simp [SV.conc, SV.concs_congr cs (by simpa [SV.ids] using h)]
 | .fn f a c, h => by
   simp [SV.conc, SV.concs_congr a (fun i hi => h i (by simp [SV.ids, hi])), SV.concs_congr c (fun i hi => h i (by simp [SV.ids, hi]))]
theorem SV.concs_congr {β β' : Nat → Loc} : ∀ (l : List SV), (∀ i ∈ SV.idss l, β' i = β i) → SV.concs β' l = SV.concs β l
 | [], _ => rfl
 | x :: xs, h => by
   simp [SV.concs, SV.conc_congr x (fun i hi => h i (by simp [SV.idss, hi])), SV.concs_congr xs (fun i hi => h i (by simp [SV.idss, hi]))]
end
def ofV : Value → SV
 | .agg cs => .agg (cs.toList.map SV.val)
 | .func f a c => .fn f (a.toList.map SV.val) (c.toList.map SV.val)
 | v => .val v
theorem concs_val (β : Nat → Loc) (l : List Value) : SV.concs β (l.map SV.val) = l := by
 induction l with
 | nil => rfl
 | cons x xs ih => simp [SV.concs, SV.conc, ih]
theorem idss_val (l : List Value) : SV.idss (l.map SV.val) = [] := by
 induction l with
 | nil => rfl
 | cons x xs ih => simp [SV.idss, SV.ids, ih]
theorem ofV_conc (β : Nat → Loc) (v : Value) : (ofV v).conc β = v := by
 cases v <;> simp [ofV, SV.conc, concs_val]
theorem ofV_ids (v : Value) : (ofV v).ids = [] := by
 cases v <;> simp [ofV, SV.ids, idss_val]
def SV.cells : SV → List SV
 | .agg cs => cs
 | v => [v]
theorem SV.cells_conc (β : Nat → Loc) (s : SV) (h : ∀ cs, s ≠ .val (.agg cs)) : (s.conc β).cells = (SV.concs β s.cells).toArray := by
 cases s with
 | val v => cases v <;> first | rfl | exact absurd rfl (h _)
 | _ => simp [SV.conc, SV.cells, Value.cells, SV.concs]
def SV.one : SV → Bool
 | .val v => v.oneCell'
 | .agg _ | .tup _ => false
 | _ => true
theorem SV.one_conc (β : Nat → Loc) {s : SV} (h : s.one = true) : (s.conc β).oneCell' = true := by
 cases s <;> simp_all [SV.one, SV.conc, Value.oneCell']
inductive BK where
 | own | old | gone
 deriving DecidableEq
structure Blk where
 n : Nat
 sz : Nat
 get : Nat → List SV
 kd : BK
 nn : Bool := true
structure BlkOK (β : Nat → Loc) (id : Nat) (B : Blk) (w : World) : Prop where
 sz : (β id).sz = B.sz
 lt : (β id).nil = false → (β id).blk < w.heap.size
 le : B.n ≤ (β id).cap
 len : ∀ e, e < B.n → (B.get e).length = B.sz
 ex : ∀ j, j < (β id).cap * B.sz → (w.cell? ⟨(β id).blk, (β id).off + j, none⟩).isSome = true
 fr : B.kd = .own → ∀ j, j < (β id).cap * B.sz → w.frozen? ⟨(β id).blk, (β id).off + j, none⟩ = false
 val : ∀ e, e < B.n → ∀ (o : Nat) (s : SV), (B.get e)[o]? = some s → w.cell? (addr β id e o) = some (s.conc β)
 nil : (β id).nil = true → (β id).cap = 0
 nn : B.nn = true → (β id).nil = false
theorem BlkOK.lt_cap {β : Nat → Loc} {id : Nat} {B : Blk} {w : World} (h : BlkOK β id B w) {j : Nat} (hj : j < (β id).cap * B.sz) : (β id).nil = false ∧ (β id).blk < w.heap.size := by
 cases hn : (β id).nil with
 | false => exact ⟨rfl, h.lt hn⟩
 | true => rw [h.nil hn] at hj; omega
theorem BlkOK.not_nil {β : Nat → Loc} {id : Nat} {B : Blk} {w : World} (h : BlkOK β id B w) {e : Nat} (he : e < B.n) : (β id).nil = false := by
 cases hn : (β id).nil with
 | false => rfl
 | true => have := h.nil hn; have := h.le; omega
def Live (bl : Nat → Option Blk) (s : SV) : Prop := ∀ i ∈ s.ids, bl i ≠ none
structure BC (W0 : World) (bl : Nat → Option Blk) (β : Nat → Loc) (w : World) : Prop where
 below : Below W0.heap.size W0 w
 blk : ∀ id B, bl id = some B → B.kd ≠ .gone → BlkOK β id B w
 own : ∀ id B, bl id = some B → B.kd = .own → (β id).nil = false → W0.heap.size ≤ (β id).blk
 old : ∀ id B, bl id = some B → B.kd = .old → (β id).nil = false → (β id).blk < W0.heap.size
 inj : ∀ id id' B B', bl id = some B → bl id' = some B' → B.kd = .own → B'.kd = .own → (β id).nil = false → (β id').nil = false → (β id).blk = (β id').blk → id = id'
 live : ∀ (id : Nat) (B : Blk) (e o : Nat) (s : SV), bl id = some B → B.kd ≠ .gone → e < B.n → (B.get e)[o]? = some s → Live bl s
def upd (bl : Nat → Option Blk) (id : Nat) (B : Blk) : Nat → Option Blk := fun i => bif Nat.beq i id then some B else bl i
def updL (β : Nat → Loc) (id : Nat) (l : Loc) : Nat → Loc := fun i => bif Nat.beq i id then l else β i
theorem BlkOK.lt_e {β : Nat → Loc} {id : Nat} {B : Blk} {w : World} (h : BlkOK β id B w) {e : Nat} (he : e < B.n) : (β id).blk < w.heap.size := h.lt (h.not_nil he)
theorem upd_same (bl : Nat → Option Blk) (id : Nat) (B : Blk) : upd bl id B id = some B := by simp [upd]
theorem upd_ne {bl : Nat → Option Blk} {id i : Nat} {B : Blk} (h : i ≠ id) : upd bl id B i = bl i := by
 have : Nat.beq i id = false := by
  cases hh : Nat.beq i id with
  | false => rfl
  | true => exact absurd (Nat.eq_of_beq_eq_true hh) h
 simp [upd, this]
theorem updL_same (β : Nat → Loc) (id : Nat) (l : Loc) : updL β id l id = l := by simp [updL]
theorem updL_ne {β : Nat → Loc} {id i : Nat} {l : Loc} (h : i ≠ id) : updL β id l i = β i := by
 have : Nat.beq i id = false := by
  cases hh : Nat.beq i id with
  | false => rfl
  | true => exact absurd (Nat.eq_of_beq_eq_true hh) h
 simp [updL, this]
theorem upd_dom {bl : Nat → Option Blk} {id i : Nat} {B : Blk} (h : bl i ≠ none) : upd bl id B i ≠ none := by
 by_cases hi : i = id
 · subst hi; rw [upd_same]; simp
 · rw [upd_ne hi]; exact h
theorem Live.upd {bl : Nat → Option Blk} {id : Nat} {B : Blk} {s : SV} (h : Live bl s) : Live (upd bl id B) s := fun i hi => upd_dom (h i hi)
theorem Live.conc {bl : Nat → Option Blk} {β : Nat → Loc} {id : Nat} {l : Loc} {s : SV} (h : Live bl s) (hid : bl id = none) : s.conc (updL β id l) = s.conc β :=
 SV.conc_congr s fun i hi => updL_ne fun e => h i hi (e ▸ hid)
theorem Live.concs {bl : Nat → Option Blk} {β : Nat → Loc} {id : Nat} {l : Loc} {cs : List SV} (h : ∀ s ∈ cs, Live bl s) (hid : bl id = none) : SV.concs (updL β id l) cs = SV.concs β cs :=
 SV.concs_congr cs fun i hi => updL_ne fun e => by
  obtain ⟨s, hs, hi⟩ := SV.mem_idss.1 hi
  exact h s hs i hi (e ▸ hid)
theorem BC.step {W0 : World} {bl : Nat → Option Blk} {β : Nat → Loc} {w w' : World} (h : BC W0 bl β w) (hb : Below w.heap.size w w') : BC W0 bl β w' where
 below := h.below.trans (hb.mono h.below.size)
 blk id B hB hg := by
  have k := h.blk id B hB hg
  exact ⟨k.sz, fun h => Nat.lt_of_lt_of_le (k.lt h) hb.size, k.le, k.len, fun j hj => by rw [hb.cell (p := ⟨_, _, none⟩) (k.lt_cap hj).2]; exact k.ex j hj,
   fun hr j hj => by rw [hb.frozen (p := ⟨_, _, none⟩) (k.lt_cap hj).2]; exact k.fr hr j hj, fun e he o s hs => by rw [hb.cell (p := addr β id e o) (k.lt_e he)]; exact k.val e he o s hs, k.nil, k.nn⟩
 own := h.own
 old := h.old
 inj := h.inj
 live := h.live
theorem BC.allocW {W0 : World} {bl : Nat → Option Blk} {β : Nat → Loc} {w w' : World} (h : BC W0 bl β w) {id : Nat} (hid : bl id = none)
 {B : Blk} (hro : B.kd = .own) (hlen : ∀ e, e < B.n → (B.get e).length = B.sz) (hlive : ∀ (e o : Nat) (s : SV), e < B.n → (B.get e)[o]? = some s → Live bl s)
 (hb : Below w.heap.size w w') {L : Loc} (hsz : L.sz = B.sz) (hblk : w.heap.size ≤ L.blk) (hlt : L.blk < w'.heap.size) (hcap : B.n ≤ L.cap) (hnil : L.nil = true → L.cap = 0) (hnn : B.nn = true → L.nil = false)
 (hex : ∀ j, j < L.cap * B.sz → (w'.cell? ⟨L.blk, L.off + j, none⟩).isSome = true) (hfr : ∀ j, j < L.cap * B.sz → w'.frozen? ⟨L.blk, L.off + j, none⟩ = false)
 (hval : ∀ (e o : Nat) (s : SV), e < B.n → (B.get e)[o]? = some s → w'.cell? ⟨L.blk, L.off + e * B.sz + o, none⟩ = some (s.conc β)) :
 BC W0 (upd bl id B) (updL β id L) w' := by
 have k := h.step hb
 refine ⟨k.below, ?_, ?_, ?_, ?_, ?_⟩
 · intro i C hC hgC
   by_cases hi : i = id
   · subst hi
     rw [upd_same] at hC
     obtain rfl : B = C := by simpa using hC
     refine ⟨by rw [updL_same]; exact hsz, fun _ => by rw [updL_same]; exact hlt, by rw [updL_same]; exact hcap, hlen, by rw [updL_same]; exact hex, fun _ => by rw [updL_same]; exact hfr, ?_, by rw [updL_same]; exact hnil, by rw [updL_same]; exact hnn⟩
     intro e he o s hs
     rw [show addr (updL β i L) i e o = ⟨L.blk, L.off + e * B.sz + o, none⟩ by simp [addr, updL_same, hsz]]
     rw [(hlive e o s he hs).conc hid]
     exact hval e o s he hs
   · rw [upd_ne hi] at hC
     have q := k.blk i C hC hgC
     have e1 : updL β id L i = β i := updL_ne hi
     refine ⟨by rw [e1]; exact q.sz, by rw [e1]; exact q.lt, by rw [e1]; exact q.le, q.len, by rw [e1]; exact q.ex, by rw [e1]; exact q.fr, ?_, by rw [e1]; exact q.nil, by rw [e1]; exact q.nn⟩
     intro e he o s hs
     rw [(h.live i C e o s hC hgC he hs).conc hid]
     have := q.val e he o s hs
     simpa [addr, e1] using this
 · intro i C hC hk hni
   by_cases hi : i = id
   · subst hi
     rw [updL_same]
     exact Nat.le_trans h.below.size hblk
   · rw [upd_ne hi] at hC
     rw [updL_ne hi] at hni ⊢
     exact h.own i C hC hk hni
 · intro i C hC hk hni
   by_cases hi : i = id
   · subst hi
     rw [upd_same] at hC
     obtain rfl : B = C := by simpa using hC
     rw [hro] at hk
     cases hk
   · rw [upd_ne hi] at hC
     rw [updL_ne hi] at hni ⊢
     exact h.old i C hC hk hni
 · intro i i' C C' hC hC' hr hr' hni hni' heq
   by_cases hi : i = id <;> by_cases hi' : i' = id
   · rw [hi, hi']
   · exfalso
     subst hi
     rw [upd_ne hi'] at hC'
     rw [updL_same, updL_ne hi'] at heq
     rw [updL_ne hi'] at hni'
     have := (h.blk i' C' hC' (by rw [hr']; simp)).lt hni'
     omega
   · exfalso
     subst hi'
     rw [upd_ne hi] at hC
     rw [updL_same, updL_ne hi] at heq
     rw [updL_ne hi] at hni
     have := (h.blk i C hC (by rw [hr]; simp)).lt hni
     omega
   · rw [upd_ne hi] at hC
     rw [upd_ne hi'] at hC'
     rw [updL_ne hi, updL_ne hi'] at heq
     rw [updL_ne hi] at hni
     rw [updL_ne hi'] at hni'
     exact h.inj i i' C C' hC hC' hr hr' hni hni' heq
 · intro i C e o s hC hg he hs
   by_cases hi : i = id
   · subst hi
     rw [upd_same] at hC
     obtain rfl : B = C := by simpa using hC
     exact (hlive e o s he hs).upd
   · rw [upd_ne hi] at hC
     exact (h.live i C e o s hC hg he hs).upd
theorem BC.alloc {W0 : World} {bl : Nat → Option Blk} {β : Nat → Loc} {w : World} (h : BC W0 bl β w) {id : Nat} (hid : bl id = none)
 {B : Blk} (hro : B.kd = .own) (hlen : ∀ e, e < B.n → (B.get e).length = B.sz) (hlive : ∀ (e o : Nat) (s : SV), e < B.n → (B.get e)[o]? = some s → Live bl s)
 (cs : List SV) (hcs : cs.length = B.n * B.sz) (hget : ∀ (e o : Nat) (s : SV), e < B.n → (B.get e)[o]? = some s → cs[e * B.sz + o]? = some s) (ty : TypeId) :
 BC W0 (upd bl id B) (updL β id ⟨w.heap.size, 0, B.sz, B.n, false⟩) (w.alloc (.cells (SV.concs β cs).toArray ty)) := by
 have hlc : (SV.concs β cs).length = B.n * B.sz := by rw [SV.concs_eq]; simp [hcs]
 refine h.allocW hid hro hlen hlive ((Below.refl _ _).alloc (Nat.le_refl _) _) rfl (Nat.le_refl _) (by simp) (Nat.le_refl _) (fun h => by cases h) (fun _ => rfl) ?_ ?_ ?_
 · intro j hj
   simp only [Nat.zero_add]
   rw [World.cell?_alloc_new]
   simp [hlc]
   simpa using hj
 · intro j hj
   simp only [Nat.zero_add]
   exact World.frozen?_alloc_new _ _ _ _
 · intro e o s he hs
   simp only [Nat.zero_add]
   rw [World.cell?_alloc_new]
   have := hget e o s he hs
   simp [SV.concs_eq, this]
theorem upd_upd (bl : Nat → Option Blk) (i : Nat) (X Y : Blk) : upd (upd bl i X) i Y = upd bl i Y := by
 funext j
 by_cases h : j = i
 · subst h; rw [upd_same, upd_same]
 · rw [upd_ne h, upd_ne h, upd_ne h]
theorem BC.kill {W0 : World} {bl : Nat → Option Blk} {β : Nat → Loc} {w : World} (h : BC W0 bl β w) (i : Nat) {X : Blk} (hX : X.kd = .gone) : BC W0 (upd bl i X) β w := by
 have F : ∀ j C, upd bl i X j = some C → C.kd ≠ .gone → j ≠ i ∧ bl j = some C := by
  intro j C hC hg
  by_cases h1 : j = i
  · subst h1; rw [upd_same] at hC
    simp only [Option.some.injEq] at hC
    rw [← hC] at hg; exact absurd hX hg
  · rw [upd_ne h1] at hC; exact ⟨h1, hC⟩
 refine ⟨h.below, fun j C hC hg => h.blk j C (F j C hC hg).2 hg, fun j C hC hk => h.own j C (F j C hC (by rw [hk]; simp)).2 hk, fun j C hC hk => h.old j C (F j C hC (by rw [hk]; simp)).2 hk,
  fun j k C D hC hD hkC hkD => h.inj j k C D (F j C hC (by rw [hkC]; simp)).2 (F k D hD (by rw [hkD]; simp)).2 hkC hkD, fun j C e o s hC hg he hs => (h.live j C e o s (F j C hC hg).2 hg he hs).upd⟩
theorem BC.reborn {W0 : World} {bl : Nat → Option Blk} {β : Nat → Loc} {w : World} (h : BC W0 bl β w) {i id : Nat} {B : Blk} (hB : bl i = some B) (hro : B.kd = .own) (hid : bl id = none) {X : Blk} (hX : X.kd = .gone) :
 BC W0 (upd (upd bl i X) id B) (updL β id (β i)) w := by
 have hne : i ≠ id := fun e => by rw [e, hid] at hB; cases hB
 have hng : B.kd ≠ .gone := by rw [hro]; simp
 have F : ∀ j C, upd (upd bl i X) id B j = some C → C.kd ≠ .gone → (j = id ∧ C = B) ∨ (j ≠ id ∧ j ≠ i ∧ bl j = some C) := by
  intro j C hC hg
  by_cases h1 : j = id
  · subst h1; rw [upd_same] at hC; exact .inl ⟨rfl, by simpa using hC.symm⟩
  · rw [upd_ne h1] at hC
    by_cases h2 : j = i
    · subst h2; rw [upd_same] at hC
      simp only [Option.some.injEq] at hC
      rw [← hC] at hg; exact absurd hX hg
    · rw [upd_ne h2] at hC; exact .inr ⟨h1, h2, hC⟩
 have hl : ∀ s, Live bl s → Live (upd (upd bl i X) id B) s := fun s hs => hs.upd.upd
 refine ⟨h.below, ?_, ?_, ?_, ?_, ?_⟩
 · intro j C hC hg
   rcases F j C hC hg with ⟨rfl, rfl⟩ | ⟨h1, h2, h3⟩
   · have q := h.blk i C hB hng
     have e1 : updL β j (β i) j = β i := updL_same _ _ _
     refine ⟨by rw [e1]; exact q.sz, by rw [e1]; exact q.lt, by rw [e1]; exact q.le, q.len, by rw [e1]; exact q.ex, by rw [e1]; exact q.fr, ?_, by rw [e1]; exact q.nil, by rw [e1]; exact q.nn⟩
     intro e he o s hs
     rw [(h.live i C e o s hB hng he hs).conc hid]
     have := q.val e he o s hs
     simpa [addr, e1] using this
   · have q := h.blk j C h3 hg
     have e1 : updL β id (β i) j = β j := updL_ne h1
     refine ⟨by rw [e1]; exact q.sz, by rw [e1]; exact q.lt, by rw [e1]; exact q.le, q.len, by rw [e1]; exact q.ex, by rw [e1]; exact q.fr, ?_, by rw [e1]; exact q.nil, by rw [e1]; exact q.nn⟩
     intro e he o s hs
     rw [(h.live j C e o s h3 hg he hs).conc hid]
     have := q.val e he o s hs
     simpa [addr, e1] using this
 · intro j C hC hk hn
   rcases F j C hC (by rw [hk]; simp) with ⟨rfl, rfl⟩ | ⟨h1, h2, h3⟩
   · rw [updL_same] at hn ⊢; exact h.own i _ hB hro hn
   · rw [updL_ne h1] at hn ⊢; exact h.own j C h3 hk hn
 · intro j C hC hk hn
   rcases F j C hC (by rw [hk]; simp) with ⟨rfl, rfl⟩ | ⟨h1, h2, h3⟩
   · rw [hro] at hk; cases hk
   · rw [updL_ne h1] at hn ⊢; exact h.old j C h3 hk hn
 · intro j k C D hC hD hkC hkD hn hn' heq
   rcases F j C hC (by rw [hkC]; simp) with ⟨rfl, rfl⟩ | ⟨h1, h2, h3⟩ <;> rcases F k D hD (by rw [hkD]; simp) with ⟨rfl, rfl⟩ | ⟨g1, g2, g3⟩
   · rfl
   · rw [updL_same, updL_ne g1] at heq
     rw [updL_same] at hn; rw [updL_ne g1] at hn'
     exact absurd (h.inj i k _ _ hB g3 hro hkD hn hn' heq).symm g2
   · rw [updL_same, updL_ne h1] at heq
     rw [updL_same] at hn'; rw [updL_ne h1] at hn
     exact absurd (h.inj j i _ _ h3 hB hkC hro hn hn' heq) h2
   · rw [updL_ne h1, updL_ne g1] at heq
     rw [updL_ne h1] at hn; rw [updL_ne g1] at hn'
     exact h.inj j k _ _ h3 g3 hkC hkD hn hn' heq
 · intro j C e o s hC hg he hs
   rcases F j C hC hg with ⟨rfl, rfl⟩ | ⟨h1, h2, h3⟩
   · exact hl s (h.live i _ e o s hB hng he hs)
   · exact hl s (h.live j C e o s h3 hg he hs)
def splice (l : List SV) (o : Nat) (cs : List SV) : List SV := l.take o ++ cs ++ l.drop (o + cs.length)
theorem splice_length {l cs : List SV} {o : Nat} (h : o + cs.length ≤ l.length) : (splice l o cs).length = l.length := by
 simp [splice]; omega
theorem splice_get {l cs : List SV} {o : Nat} (h : o + cs.length ≤ l.length) (j : Nat) : (splice l o cs)[j]? = if o ≤ j ∧ j < o + cs.length then cs[j - o]? else l[j]? := by
 unfold splice
 by_cases h1 : j < o
 · rw [if_neg (by omega), List.append_assoc, List.getElem?_append_left (by simp; omega), List.getElem?_take_of_lt h1]
 · by_cases h2 : j < o + cs.length
   · rw [if_pos (by omega), List.getElem?_append_left (by simp; omega), List.getElem?_append_right (by simp; omega)]
     congr 1
     simp
     omega
   · rw [if_neg (by omega), List.getElem?_append_right (by simp; omega), List.getElem?_drop]
     congr 1
     simp
     omega
def Blk.put (B : Blk) (e o : Nat) (cs : List SV) : Blk := { B with get := fun i => bif Nat.beq i e then splice (B.get i) o cs else B.get i }
theorem Blk.put_get (B : Blk) (e o : Nat) (cs : List SV) (i : Nat) : (B.put e o cs).get i = if i = e then splice (B.get i) o cs else B.get i := by
 by_cases h : i = e
 · subst h; simp [Blk.put]
 · have : Nat.beq i e = false := by
    cases hh : Nat.beq i e with
    | false => rfl
    | true => exact absurd (Nat.eq_of_beq_eq_true hh) h
   simp [Blk.put, this, h]
theorem cell_inj {e e' o o' sz : Nat} (ho : o < sz) (ho' : o' < sz) (h : e * sz + o = e' * sz + o') : e = e' ∧ o = o' := by
 have h1 : (e * sz + o) / sz = e := by rw [Nat.mul_comm, Nat.mul_add_div (by omega)]; simp [Nat.div_eq_of_lt ho]
 have h2 : (e' * sz + o') / sz = e' := by rw [Nat.mul_comm, Nat.mul_add_div (by omega)]; simp [Nat.div_eq_of_lt ho']
 have : e = e' := by rw [← h1, ← h2, h]
 subst this
 exact ⟨rfl, by omega⟩
theorem cell_lt {e o sz n : Nat} (he : e < n) (ho : o < sz) : e * sz + o < n * sz := by
 have : (e + 1) * sz ≤ n * sz := Nat.mul_le_mul_right _ he
 rw [Nat.add_mul] at this
 omega
theorem setCells_frame : ∀ (vs : List Value) (b k : Nat) (w : World), (w.setCells b k vs).heap.size = w.heap.size ∧ (∀ i, i ≠ b → (w.setCells b k vs).heap[i]? = w.heap[i]?) ∧ (w.setCells b k vs).os = w.os ∧ (w.setCells b k vs).tape = w.tape ∧ (w.setCells b k vs).output = w.output
 | [], b, k, w => ⟨rfl, fun _ _ => rfl, rfl, rfl, rfl⟩
 | v :: vs, b, k, w => by
   rw [World.setCells]
   obtain ⟨h1, h2, h3, h4, h5⟩ := setCells_frame vs b (k + 1) (w.setCell ⟨b, k, none⟩ v)
   exact ⟨by rw [h1]; simp, fun i hi => by rw [h2 i hi, Below.heap_setCell _ _ _ _ hi], h3, h4, h5⟩
theorem BC.writeG {W0 : World} {bl : Nat → Option Blk} {β : Nat → Loc} {w : World} (h : BC W0 bl β w) {id : Nat} {B : Blk} (hB : bl id = some B) (hro : B.kd = .own)
 {k : Nat} {vs : List Value} (hk : k + vs.length ≤ (β id).cap * B.sz) {B' : Blk} (e1 : B'.sz = B.sz) (e2 : B'.kd = .own) (e3 : B'.n ≤ (β id).cap) (e4 : B'.nn = true → (β id).nil = false)
 (hlen : ∀ e, e < B'.n → (B'.get e).length = B.sz) (hlive : ∀ (e o : Nat) (s : SV), e < B'.n → (B'.get e)[o]? = some s → Live bl s)
 (hval : ∀ (e o : Nat) (s : SV), e < B'.n → (B'.get e)[o]? = some s → (k ≤ e * B.sz + o ∧ e * B.sz + o < k + vs.length ∧ vs[e * B.sz + o - k]? = some (s.conc β)) ∨ ((e * B.sz + o < k ∨ k + vs.length ≤ e * B.sz + o) ∧ e < B.n ∧ (B.get e)[o]? = some s)) :
 BC W0 (upd bl id B') β (w.setCells (β id).blk ((β id).off + k) vs) := by
 have hng : B.kd ≠ .gone := by rw [hro]; simp
 have q := h.blk id B hB hng
 cases hnl : (β id).nil with
 | true =>
   have hc := q.nil hnl
   rw [hc] at hk e3
   have hv : vs = [] := List.eq_nil_of_length_eq_zero (by omega)
   subst hv
   have hBn : B.n = 0 := by have := q.le; omega
   have hn0 : B'.n = 0 := by omega
   refine ⟨h.below, ?_, ?_, ?_, ?_, ?_⟩
   · intro i C hC hg
     by_cases hi : i = id
     · subst hi
       rw [upd_same] at hC
       obtain rfl : B' = C := by simpa using hC
       exact ⟨by rw [e1]; exact q.sz, q.lt, by omega, by rw [e1]; exact hlen, by rw [e1]; exact q.ex, fun _ => by rw [e1]; exact q.fr hro, fun e he => by omega, q.nil, fun hh => (by rw [e4 hh] at hnl; cases hnl)⟩
     · rw [upd_ne hi] at hC; exact h.blk i C hC hg
   · intro i C hC hk' hn'
     by_cases hi : i = id
     · subst hi; rw [hnl] at hn'; cases hn'
     · rw [upd_ne hi] at hC; exact h.own i C hC hk' hn'
   · intro i C hC hk' hn'
     by_cases hi : i = id
     · subst hi; rw [hnl] at hn'; cases hn'
     · rw [upd_ne hi] at hC; exact h.old i C hC hk' hn'
   · intro i j C D hC hD hkC hkD hn1 hn2 heq
     have f : ∀ i, (β i).nil = false → i ≠ id := fun i hi he => by rw [he, hnl] at hi; cases hi
     rw [upd_ne (f i hn1)] at hC
     rw [upd_ne (f j hn2)] at hD
     exact h.inj i j C D hC hD hkC hkD hn1 hn2 heq
   · intro i C e o s hC hg he hs
     by_cases hi : i = id
     · subst hi
       rw [upd_same] at hC
       obtain rfl : B' = C := by simpa using hC
       omega
     · rw [upd_ne hi] at hC; exact (h.live i C e o s hC hg he hs).upd
 | false =>
 have hloc := h.own id B hB hro hnl
 obtain ⟨hsize, hblock, hos⟩ := setCells_frame vs (β id).blk ((β id).off + k) w
 have hcell : ∀ j, j < vs.length → (w.cell? ⟨(β id).blk, (β id).off + k + j, none⟩).isSome = true := fun j hj => by
  have := q.ex (k + j) (by omega)
  rwa [show (β id).off + k + j = (β id).off + (k + j) by omega]
 have hbel : Below (β id).blk w (w.setCells (β id).blk ((β id).off + k) vs) :=
  ⟨hos.1, hos.2.1, hos.2.2, by rw [hsize]; exact Nat.le_refl _, fun k hk => hblock _ (by omega)⟩
 refine ⟨h.below.trans (hbel.mono hloc), ?_, ?_, ?_, ?_, ?_⟩
 · intro i C hC hgC
   by_cases hi : i = id
   · subst hi
     rw [upd_same] at hC
     obtain rfl : B' = C := by simpa using hC
     refine ⟨by rw [e1]; exact q.sz, by rw [hsize]; exact q.lt, e3, by rw [e1]; exact hlen, ?_, ?_, ?_, q.nil, e4⟩
     · intro j hj
       rw [e1] at hj
       by_cases hjj : k ≤ j ∧ j < k + vs.length
       · have := World.cell?_setCells_in (β i).blk vs ((β i).off + k) w hcell (j - k) (by omega)
         rw [show (β i).off + k + (j - k) = (β i).off + j by omega] at this
         rw [this]; rfl
       · rw [World.cell?_setCells_out _ _ _ _ _ (fun _ _ => by simp only []; omega)]
         exact q.ex j hj
     · intro hr j hj
       rw [e1] at hj
       rw [World.frozen?_setCells]
       exact q.fr hro j hj
     · intro e he o s hs
       have ho : o < B.sz := by
        rcases Nat.lt_or_ge o B.sz with h' | h'
        · exact h'
        · rw [List.getElem?_eq_none (by rw [hlen e he]; exact h')] at hs; cases hs
       rcases hval e o s he hs with ⟨h1, h2, h3⟩ | ⟨h1, h2, h3⟩
       · have := World.cell?_setCells_in (β i).blk vs ((β i).off + k) w hcell (e * B.sz + o - k) (by omega)
         rw [show (β i).off + k + (e * B.sz + o - k) = (β i).off + e * (β i).sz + o by rw [q.sz]; omega] at this
         unfold addr
         rw [this]
         rw [List.getElem?_eq_getElem (by omega)] at h3
         exact h3
       · rw [World.cell?_setCells_out _ _ _ _ _ (fun _ _ => by
          simp only [addr]
          rw [q.sz]
          omega)]
         exact q.val e h2 o s h3
   · rw [upd_ne hi] at hC
     have p := h.blk i C hC hgC
     cases hni : (β i).nil with
     | true =>
       have hc := p.nil hni
       have hn0 : C.n = 0 := by have := p.le; omega
       exact ⟨p.sz, fun h' => absurd (hni.symm.trans h') (by decide), p.le, p.len, fun j hj => by rw [hc] at hj; omega, fun _ j hj => by rw [hc] at hj; omega, fun e he => by omega, p.nil, p.nn⟩
     | false =>
     have hne : (β i).blk ≠ (β id).blk := by
      intro heq
      cases hr : C.kd with
      | gone => exact hgC hr
      | old => have := h.old i C hC hr hni; omega
      | own => exact hi (h.inj i id C B hC hB hr hro hni hnl heq)
     have hcc : ∀ j, (w.setCells (β id).blk ((β id).off + k) vs).cell? ⟨(β i).blk, j, none⟩ = w.cell? ⟨(β i).blk, j, none⟩ := fun j =>
      World.cell?_setCells_out _ _ _ _ _ (fun h _ => absurd h hne)
     refine ⟨p.sz, by rw [hsize]; exact p.lt, p.le, p.len, fun j hj => by rw [hcc]; exact p.ex j hj, fun hr j hj => by rw [World.frozen?_setCells]; exact p.fr hr j hj, fun e' he' o' s hs => ?_, p.nil, p.nn⟩
     unfold addr
     rw [hcc]
     exact p.val e' he' o' s hs
 · intro i C hC hk hn1
   by_cases hi : i = id
   · subst hi; exact hloc
   · rw [upd_ne hi] at hC
     exact h.own i C hC hk hn1
 · intro i C hC hk hn1
   by_cases hi : i = id
   · subst hi
     rw [upd_same] at hC
     obtain rfl : B' = C := by simpa using hC
     rw [e2] at hk; cases hk
   · rw [upd_ne hi] at hC
     exact h.old i C hC hk hn1
 · intro i i' C C' hC hC' hr hr' hn1 hn2 heq
   have f : ∀ j D, upd bl id B' j = some D → D.kd = .own → ∃ D', bl j = some D' ∧ D'.kd = .own := by
    intro j D hD hrD
    by_cases hj : j = id
    · subst hj; exact ⟨B, hB, hro⟩
    · rw [upd_ne hj] at hD; exact ⟨D, hD, hrD⟩
   obtain ⟨D, hD, hrD⟩ := f i C hC hr
   obtain ⟨D', hD', hrD'⟩ := f i' C' hC' hr'
   exact h.inj i i' D D' hD hD' hrD hrD' hn1 hn2 heq
 · intro i C e' o' s hC hg he' hs
   refine Live.upd ?_
   by_cases hi : i = id
   · subst hi
     rw [upd_same] at hC
     obtain rfl : B' = C := by simpa using hC
     exact hlive e' o' s he' hs
   · rw [upd_ne hi] at hC
     exact h.live i C e' o' s hC hg he' hs
theorem BC.write {W0 : World} {bl : Nat → Option Blk} {β : Nat → Loc} {w : World} (h : BC W0 bl β w) {id : Nat} {B : Blk} (hB : bl id = some B) (hro : B.kd = .own)
 {e o : Nat} {cs : List SV} (he : e < B.n) (ho : o + cs.length ≤ B.sz) (hlive : ∀ s ∈ cs, Live bl s) :
 BC W0 (upd bl id (B.put e o cs)) β (w.setCells (β id).blk ((β id).off + e * (β id).sz + o) (SV.concs β cs)) := by
 have hng : B.kd ≠ .gone := by rw [hro]; simp
 have q := h.blk id B hB hng
 have hnl := q.not_nil he
 have hloc := h.own id B hB hro hnl
 have hl := q.len e he
 have hlen : (SV.concs β cs).length = cs.length := by rw [SV.concs_eq]; simp
 have hin : ∀ j, j < cs.length → e * B.sz + o + j < (β id).cap * B.sz := fun j hj => by
  have := cell_lt (e := e) (o := o + j) (n := (β id).cap) (sz := B.sz) (by have := q.le; omega) (by omega)
  omega
 have hcell : ∀ j, j < (SV.concs β cs).length → (w.cell? ⟨(β id).blk, (β id).off + e * (β id).sz + o + j, none⟩).isSome = true := fun j hj => by
  have := q.ex (e * B.sz + o + j) (hin j (by omega))
  rw [q.sz]
  rwa [show (β id).off + e * B.sz + o + j = (β id).off + (e * B.sz + o + j) by omega]
 have hsize : ∀ (vs : List Value) (b k : Nat) (w : World), (w.setCells b k vs).heap.size = w.heap.size := by
  intro vs
  induction vs with
  | nil => intro b k w; rfl
  | cons v vs ih => intro b k w; rw [World.setCells, ih]; simp
 have hblock : ∀ (vs : List Value) (b k : Nat) (w : World) (i : Nat), i ≠ b → (w.setCells b k vs).heap[i]? = w.heap[i]? := by
  intro vs
  induction vs with
  | nil => intro b k w i _; rfl
  | cons v vs ih => intro b k w i hi; rw [World.setCells, ih _ _ _ _ hi, Below.heap_setCell _ _ _ _ hi]
 have hos : ∀ (vs : List Value) (b k : Nat) (w : World), (w.setCells b k vs).os = w.os ∧ (w.setCells b k vs).tape = w.tape ∧ (w.setCells b k vs).output = w.output := by
  intro vs
  induction vs with
  | nil => intro b k w; exact ⟨rfl, rfl, rfl⟩
  | cons v vs ih => intro b k w; rw [World.setCells]; exact ih _ _ _
 have hbel : Below (β id).blk w (w.setCells (β id).blk ((β id).off + e * (β id).sz + o) (SV.concs β cs)) :=
  ⟨(hos _ _ _ _).1, (hos _ _ _ _).2.1, (hos _ _ _ _).2.2, by rw [hsize]; exact Nat.le_refl _, fun k hk => hblock _ _ _ _ _ (by omega)⟩
 refine ⟨h.below.trans (hbel.mono hloc), ?_, ?_, ?_, ?_, ?_⟩
 · intro i C hC hgC
   by_cases hi : i = id
   · subst hi
     rw [upd_same] at hC
     obtain rfl : B.put e o cs = C := by simpa using hC
     refine ⟨q.sz, by rw [hsize]; exact q.lt, q.le, ?_, ?_, ?_, ?_, q.nil, q.nn⟩
     · intro e' he'
       rw [Blk.put_get]
       split
       · rename_i heq; subst heq; rw [splice_length (by omega)]; exact hl
       · exact q.len e' he'
     · intro j hj
       by_cases hjj : e * B.sz + o ≤ j ∧ j < e * B.sz + o + cs.length
       · have := World.cell?_setCells_in (β i).blk (SV.concs β cs) ((β i).off + e * (β i).sz + o) w hcell (j - (e * B.sz + o)) (by omega)
         rw [q.sz] at this ⊢
         rw [show (β i).off + e * B.sz + o + (j - (e * B.sz + o)) = (β i).off + j by omega] at this
         rw [this]; rfl
       · rw [World.cell?_setCells_out _ _ _ _ _ (fun _ _ => by simp only []; rw [q.sz]; omega)]
         exact q.ex j hj
     · intro hr j hj
       rw [World.frozen?_setCells]
       exact q.fr hr j hj
     · intro e' he' o' s hs
       have ho' : o' < B.sz := by
        have hlen' : ((B.put e o cs).get e').length = B.sz := by
         rw [Blk.put_get]
         split
         · rename_i heq; subst heq; rw [splice_length (by omega)]; exact hl
         · exact q.len e' he'
        rcases Nat.lt_or_ge o' B.sz with h' | h'
        · exact h'
        · rw [List.getElem?_eq_none (by omega)] at hs; cases hs
       rw [Blk.put_get] at hs
       by_cases hc : e' = e ∧ o ≤ o' ∧ o' < o + cs.length
       · obtain ⟨rfl, h1, h2⟩ := hc
         rw [if_pos rfl, splice_get (by omega), if_pos ⟨h1, h2⟩] at hs
         have := World.cell?_setCells_in (β i).blk (SV.concs β cs) ((β i).off + e' * (β i).sz + o) w hcell (o' - o) (by omega)
         rw [show (β i).off + e' * (β i).sz + o + (o' - o) = (β i).off + e' * (β i).sz + o' by omega] at this
         unfold addr
         rw [this]
         congr 1
         have h3 : (SV.concs β cs)[o' - o]? = some (s.conc β) := by rw [SV.concs_eq]; simp [hs]
         rw [List.getElem?_eq_getElem (by omega)] at h3
         simpa using h3
       · have hs' : (B.get e')[o']? = some s := by
          by_cases hee : e' = e
          · subst hee
            rw [if_pos rfl, splice_get (by omega), if_neg (by omega)] at hs
            exact hs
          · rw [if_neg hee] at hs
            exact hs
         rw [World.cell?_setCells_out _ _ _ _ _ (fun _ _ => by
          simp only [addr]
          rw [q.sz, hlen]
          rcases Nat.lt_or_ge ((β i).off + e' * B.sz + o') ((β i).off + e * B.sz + o) with h1 | h1
          · exact .inl h1
          · rcases Nat.lt_or_ge ((β i).off + e' * B.sz + o') ((β i).off + e * B.sz + o + cs.length) with h2 | h2
            · exfalso
              have heq : e' * B.sz + o' = e * B.sz + (o + (e' * B.sz + o' - (e * B.sz + o))) := by omega
              obtain ⟨h3, h4⟩ := cell_inj ho' (by omega) heq
              exact hc ⟨h3, by omega, by omega⟩
            · exact .inr h2)]
         exact q.val e' he' o' s hs'
   · rw [upd_ne hi] at hC
     have p := h.blk i C hC hgC
     cases hni : (β i).nil with
     | true =>
       have hc := p.nil hni
       have hn0 : C.n = 0 := by have := p.le; omega
       exact ⟨p.sz, fun h' => absurd (hni.symm.trans h') (by decide), p.le, p.len, fun j hj => by rw [hc] at hj; omega, fun _ j hj => by rw [hc] at hj; omega, fun e he => by omega, p.nil, p.nn⟩
     | false =>
     have hne : (β i).blk ≠ (β id).blk := by
      intro heq
      cases hr : C.kd with
      | gone => exact hgC hr
      | old => have := h.old i C hC hr hni; omega
      | own => exact hi (h.inj i id C B hC hB hr hro hni hnl heq)
     have hcc : ∀ k, (w.setCells (β id).blk ((β id).off + e * (β id).sz + o) (SV.concs β cs)).cell? ⟨(β i).blk, k, none⟩ = w.cell? ⟨(β i).blk, k, none⟩ := fun k =>
      World.cell?_setCells_out _ _ _ _ _ (fun h _ => absurd h hne)
     refine ⟨p.sz, by rw [hsize]; exact p.lt, p.le, p.len, fun j hj => by rw [hcc]; exact p.ex j hj, fun hr j hj => by rw [World.frozen?_setCells]; exact p.fr hr j hj, fun e' he' o' s hs => ?_, p.nil, p.nn⟩
     unfold addr
     rw [hcc]
     exact p.val e' he' o' s hs
 · intro i C hC hk hn1
   by_cases hi : i = id
   · subst hi; exact hloc
   · rw [upd_ne hi] at hC
     exact h.own i C hC hk hn1
 · intro i C hC hk hn1
   by_cases hi : i = id
   · subst hi
     rw [upd_same] at hC
     obtain rfl : B.put e o cs = C := by simpa using hC
     exact h.old i B hB hk hn1
   · rw [upd_ne hi] at hC
     exact h.old i C hC hk hn1
 · intro i i' C C' hC hC' hr hr' hn1 hn2 heq
   have f : ∀ j D, upd bl id (B.put e o cs) j = some D → D.kd = .own → ∃ D', bl j = some D' ∧ D'.kd = .own := by
    intro j D hD hrD
    by_cases hj : j = id
    · subst hj; exact ⟨B, hB, hro⟩
    · rw [upd_ne hj] at hD; exact ⟨D, hD, hrD⟩
   obtain ⟨D, hD, hrD⟩ := f i C hC hr
   obtain ⟨D', hD', hrD'⟩ := f i' C' hC' hr'
   exact h.inj i i' D D' hD hD' hrD hrD' hn1 hn2 heq
 · intro i C e' o' s hC hg he' hs
   by_cases hi : i = id
   · subst hi
     rw [upd_same] at hC
     obtain rfl : B.put e o cs = C := by simpa using hC
     rw [Blk.put_get] at hs
     refine Live.upd ?_
     split at hs
     · rename_i heq
       subst heq
       rw [splice_get (by omega)] at hs
       split at hs
       · exact hlive s (List.mem_of_getElem? hs)
       · exact h.live i B e' o' s hB hng he' hs
     · exact h.live i B e' o' s hB hng he' hs
   · rw [upd_ne hi] at hC
     exact (h.live i C e' o' s hC hg he' hs).upd
end
section
inductive TV where
 | dead
 | v (s : SV)
 | opt (t : Nat) (b : Bool) (s : SV)
structure AS where
 tm : Nat → TV
 bl : Nat → Option Blk
 nx : Nat
 nt : Nat
 wl : List Nat
 og : Nat → Bool
 ok : Nat → Bool
def AS.put (A : AS) (d : Nat) (v : TV) : AS := { A with tm := fun t => bif Nat.beq t d then v else A.tm t }
def memG : List (Nat × Bool) → Nat → Bool → Bool
 | [], _, _ => false
 | (t, b) :: r, u, c => bif (Nat.beq t u && (bif b then c else !c)) then true else memG r u c
def known (tm : Nat → TV) : Nat → Nat → Bool → List (Nat × Bool)
 | 0, _, _ => []
 | k + 1, t, b => (t, b) :: match tm t with
   | .opt t' b' _ => known tm k t' b'
   | _ => []
def ev (tm : Nat → TV) (G : List (Nat × Bool)) : Operand → Option SV
 | .tmp t => match tm t with
   | .v s => some s
   | .opt t' b s => bif memG G t' b then some s else none
   | .dead => none
 | .const c => some (ofV c)
 | .global g => some (.val (.pointer (some ⟨g, 0, none⟩)))
 | .func f => some (.fn (.func f) [] [])
def truth (tm : Nat → TV) : Nat → Nat → Bool → Option Bool
 | 0, _, _ => none
 | k + 1, t, b => match tm t with
   | .v (.val (.bool c)) => some (bif b then c else !c)
   | .opt t' b' (.val (.bool c)) => match truth tm k t' b' with
     | some g => some (g && (bif b then c else !c))
     | none => none
   | _ => none
structure Eff where
 need : Bool := true
 out : SV
 rd : List Nat := []
 wr : Option (Nat × Nat × Nat × List SV) := none
 nw : Option Blk := none
abbrev Ctr := List SV → Option (Bool × SV)
structure RC where
 X : Type
 pre : Bool
 spec : X → Prop
 out : X → SV
 nw : X → List Blk := fun _ => []
 ex : pre = true → ∃ x, spec x
abbrev MCtr := (Nat → Option Blk) → Nat → List SV → Option RC
def aggT (P : Program) (t : TypeId) : Option Bool :=
 match P.underlying t with
 | some (.struct _) => some true
 | some (.array _ _) => some true
 | some _ => some false
 | none => none
def szT (P : Program) (t : TypeId) : Option Nat := (P.info? t).map (·.size)
def partS (P : Program) (t : TypeId) (cs : List SV) (off : Nat) : Option SV :=
 match aggT P t, szT P t with
 | some true, some n => some (.agg ((cs.drop off).take n))
 | some false, _ => cs[off]?
 | _, _ => none
def kIdx : IntKind → Nat
 | .i8 => 0 | .i16 => 1 | .i32 => 2 | .i64 => 3 | .u8 => 4 | .u16 => 5 | .u32 => 6 | .u64 => 7
def kEq (k l : IntKind) : Bool := Nat.beq (kIdx k) (kIdx l)
theorem kEq_eq {k l : IntKind} (h : kEq k l = true) : k = l := by
 cases k <;> cases l <;> first | rfl | (exact absurd h (by decide))
def kLo : IntKind → Int
 | .i8 => -128 | .i16 => -32768 | .i32 => -2147483648 | .i64 => -9223372036854775808 | _ => 0
def kHi : IntKind → Int
 | .i8 => 127 | .i16 => 32767 | .i32 => 2147483647 | .i64 => 9223372036854775807
 | .u8 => 255 | .u16 => 65535 | .u32 => 4294967295 | .u64 => 18446744073709551615
def inR (k : IntKind) (z : Int) : Bool := decide (kLo k ≤ z) && decide (z ≤ kHi k)
theorem inR_iff {k : IntKind} {z : Int} : inR k z = true ↔ kLo k ≤ z ∧ z ≤ kHi k := by simp [inR]
theorem wrap_inR {k : IntKind} {z : Int} (h : inR k z = true) : k.wrap z = z := by
 obtain ⟨h1, h2⟩ := inR_iff.1 h
 clear h
 unfold IntKind.wrap
 cases k <;> simp [IntKind.bits, IntKind.signed, kLo, kHi] at h1 h2 ⊢ <;> first
  | omega
  | (split <;> omega)
def seq (x y : ByteArray) : Bool := x.data.toList == y.data.toList
theorem seq_eq (x y : ByteArray) : seq x y = (x.toList == y.toList) := by
 rw [ByteArray.toList_eq, ByteArray.toList_eq]; rfl
theorem seq_iff {x y : ByteArray} : seq x y = true ↔ x = y := by
 unfold seq
 rw [beq_iff_eq]
 constructor
 · intro h; obtain ⟨⟨a⟩⟩ := x; obtain ⟨⟨b⟩⟩ := y; simp at h; rw [h]
 · rintro rfl; rfl
def eqFS (P : Program) (f : TypeId → SV → SV → Option Bool) (xs ys : List SV) : List Field → Option Bool
 | [] => some true
 | fl :: fs => bif decide (fl.name = "_") then none else match partS P fl.type xs fl.offset, partS P fl.type ys fl.offset with
   | some a, some b => match f fl.type a b, eqFS P f xs ys fs with
     | some p, some q => some (p && q)
     | _, _ => none
   | _, _ => none
def eqES (P : Program) (f : TypeId → SV → SV → Option Bool) (e s : Nat) (xs ys : List SV) : Nat → Nat → Option Bool
 | 0, _ => some true
 | n + 1, i => match partS P e xs (i * s), partS P e ys (i * s) with
   | some a, some b => match f e a b, eqES P f e s xs ys n (i + 1) with
     | some p, some q => some (p && q)
     | _, _ => none
   | _, _ => none
def eqS (P : Program) : Nat → TypeId → SV → SV → Option Bool
 | 0, _, _, _ => none
 | d + 1, t, x, y => match P.underlying t with
   | some .bool => match x, y with
     | .val (.bool a), .val (.bool b) => some (a == b)
     | _, _ => none
   | some (.int _) => match x, y with
     | .val (.int k a), .val (.int k' b) => bif kEq k k' then some (a == b) else none
     | _, _ => none
   | some .string => match x, y with
     | .val (.string a), .val (.string b) => some (seq a b)
     | _, _ => none
   | some (.struct fs) => match x, y with
     | .agg xs, .agg ys => bif P.stoodInHeld t then none else eqFS P (eqS P d) xs ys fs.toList
     | _, _ => none
   | some (.array n e) => match x, y with
     | .agg xs, .agg ys => match szT P e with
       | some s => eqES P (eqS P d) e s xs ys n 0
       | none => none
     | _, _ => none
   | _ => none
def binI (op : BinOp) (k k' : IntKind) (a b : Int) : Option (Bool × SV) :=
 match op with
 | .shl => some (decide (0 ≤ b) && inR k (a * 2 ^ (min b.toNat k.bits)), .val (.int k (a * 2 ^ (min b.toNat k.bits))))
 | .shr => some (decide (0 ≤ b), .val (.int k (a.fdiv (2 ^ (min b.toNat k.bits)))))
 | op => bif kEq k k' then (match op with
   | .add => some (inR k (a + b), .val (.int k (a + b)))
   | .sub => some (inR k (a - b), .val (.int k (a - b)))
   | .mul => some (inR k (a * b), .val (.int k (a * b)))
   | .quo => some (!decide (b = 0) && inR k (a.tdiv b), .val (.int k (a.tdiv b)))
   | .rem => some (!decide (b = 0), .val (.int k (a.tmod b)))
   | .eql => some (true, .val (.bool (a == b)))
   | .neq => some (true, .val (.bool (a != b)))
   | .lss => some (true, .val (.bool (decide (a < b))))
   | .leq => some (true, .val (.bool (decide (a ≤ b))))
   | .gtr => some (true, .val (.bool (decide (a > b))))
   | .geq => some (true, .val (.bool (decide (a ≥ b))))
   | _ => none) else none
def binStr (op : BinOp) (a b : ByteArray) : Option (Bool × SV) :=
 match op with
 | .add => some (decide (a.size + b.size ≤ 9223372036854775807), .val (.string (a ++ b)))
 | .eql => some (true, .val (.bool (seq a b)))
 | .neq => some (true, .val (.bool (!seq a b)))
 | .lss => some (true, .val (.bool (Op.bytesLess a.data.toList b.data.toList)))
 | .gtr => some (true, .val (.bool (!(Op.bytesLess a.data.toList b.data.toList || seq a b))))
 | .leq => some (true, .val (.bool (Op.bytesLess a.data.toList b.data.toList || seq a b)))
 | .geq => some (true, .val (.bool (!Op.bytesLess a.data.toList b.data.toList)))
 | _ => none
def eqOp (P : Program) (op : BinOp) (t : TypeId) (x y : SV) : Option (Bool × SV) :=
 match op, eqS P 9 t x y with
 | .eql, some b => some (true, .val (.bool b))
 | .neq, some b => some (true, .val (.bool (!b)))
 | _, _ => none
def binS (P : Program) (op : BinOp) (t : TypeId) (x y : SV) : Option (Bool × SV) :=
 match x, y with
 | .val (.int k a), .val (.int k' b) => binI op k k' a b
 | .val (.string a), .val (.string b) => binStr op a b
 | .val (.bool _), .val (.bool _) => eqOp P op t x y
 | .agg _, .agg _ => bif P.eqGuardType P.depth t then none else eqOp P op t x y
 | _, _ => none
def unS (op : UnOp) (x : SV) : Option (Bool × SV) :=
 match op, x with
 | .neg, .val (.int k n) => some (inR k (-n), .val (.int k (-n)))
 | .not, .val (.bool b) => some (true, .val (.bool (!b)))
 | _, _ => none
def byteI (s : ByteArray) (i : Nat) : Int :=
 match s.data.toList[i]? with
 | some b => (b.toNat : Int)
 | none => 0
def strsOf : List SV → Option (List ByteArray)
 | [] => some []
 | .val (.string s) :: r => match strsOf r with
   | some l => some (s :: l)
   | none => none
 | _ => none
def nthB : List ByteArray → Nat → ByteArray
 | [], _ => ⟨#[]⟩
 | s :: _, 0 => s
 | _ :: r, i + 1 => nthB r i
def intsOf (k : IntKind) : List SV → Option (List Int)
 | [] => some []
 | .val (.int k' z) :: r => bif kEq k' k then (match intsOf k r with
   | some l => some (z :: l)
   | none => none) else none
 | _ => none
def nthI : List Int → Nat → Int
 | [], _ => 0
 | s :: _, 0 => s
 | _ :: r, i + 1 => nthI r i
def nthS (P : Program) (el : TypeId) (cs : List SV) (i s : Nat) : Option SV :=
 match strsOf cs with
 | some l => some (.val (.string (nthB l i)))
 | none => match intsOf .i64 cs with
   | some l => some (.val (.int .i64 (nthI l i)))
   | none => partS P el cs (i * s)
def rowS (r : List SV) (s : Nat) : Nat → List SV := bif Nat.beq s 1 then (match strsOf r with
 | some l => fun e => [.val (.string (nthB l e))]
 | none => match intsOf .i64 r with
   | some l => fun e => [.val (.int .i64 (nthI l e))]
   | none => fun e => (r.drop (e * s)).take s) else fun e => (r.drop (e * s)).take s
def ends (n : Nat) (lo hi : Option SV) : Option (Bool × Nat × Nat) :=
 match lo, hi with
 | none, none => some (true, 0, n)
 | none, some (.val (.int _ h)) => some (decide (0 ≤ h) && decide (h ≤ n), 0, h.toNat)
 | some (.val (.int _ l)), none => some (decide (0 ≤ l) && decide (l ≤ n), l.toNat, n)
 | some (.val (.int _ l)), some (.val (.int _ h)) => some (decide (0 ≤ l) && decide (l ≤ h) && decide (h ≤ n), l.toNat, h.toNat)
 | _, _ => none
def zeroS (P : Program) (t : TypeId) : Option (List SV) := ((P.info? t).bind (·.zero)).map fun v => v.cells.toList.map SV.val
def fillS (place : Nat → Option (Nat × Nat)) (cells : List SV) : List (Nat × SV) → Option (List SV)
 | [] => some cells
 | (i, v) :: rest =>
   match place i with
   | none => none
   | some (off, size) =>
     bif Nat.beq v.cells.length size && Nat.ble (off + v.cells.length) cells.length then fillS place (splice cells off v.cells) rest else none
def fieldAt (P : Program) (t : TypeId) (i : Nat) : Option Field :=
 match P.underlying t with
 | some (.struct fs) => fs.toList[i]?
 | _ => none
def placesS (P : Program) : List Field → Option (List (Nat × Nat))
 | [] => some []
 | f :: fs => match szT P f.type, placesS P fs with
   | some s, some r => some ((f.offset, s) :: r)
   | _, _ => none
def evs (tm : Nat → TV) (G : List (Nat × Bool)) : List Operand → Option (List SV)
 | [] => some []
 | x :: xs => match ev tm G x, evs tm G xs with
   | some a, some r => some (a :: r)
   | _, _ => none
def evParts (tm : Nat → TV) (G : List (Nat × Bool)) : List (Nat × Operand) → Option (List (Nat × SV))
 | [] => some []
 | (i, x) :: xs => match ev tm G x, evParts tm G xs with
   | some (.val (.agg _)), _ => none
   | some a, some r => some ((i, a) :: r)
   | _, _ => none
def bytesS (get : Nat → List SV) : Nat → Nat → Option (List UInt8)
 | _, 0 => some []
 | e, n + 1 => match get e with
   | [.val (.int .u8 b)] => match bytesS get (e + 1) n with
     | some r => some (UInt8.ofNat b.toNat :: r)
     | none => none
   | _ => none
def mergeS (c : Bool) (x y : SV) : Option SV :=
 match x, y with
 | .val (.bool p), .val (.bool q) => some (.val (.bool (bif c then p else q)))
 | _, _ => none
def pure1 (o : Option SV) : Option Eff :=
 match o with
 | some s => some { out := s }
 | none => none
def pure2 (o : Option (Bool × SV)) : Option Eff :=
 match o with
 | some (b, s) => some { need := b, out := s }
 | none => none
def lenS (P : Program) (t : TypeId) (x : SV) : Option SV :=
 match P.underlying t, x with
 | some .string, .val (.string s) => some (.val (.int .i64 s.size))
 | some (.array n _), _ => some (.val (.int .i64 n))
 | some (.slice _), .slc _ _ n => some (.val (.int .i64 n))
 | some (.slice _), .val (.slice _ n _) => some (.val (.int .i64 n))
 | _, _ => none
def mm (isMax : Bool) (x y : SV) : Option SV :=
 match x, y with
 | .val (.int k a), .val (.int _ b) => some (.val (.int k (bif isMax then (if b > a then b else a) else (if b < a then b else a))))
 | _, _ => none
def mms (isMax : Bool) : SV → List SV → Option SV
 | x, [] => some x
 | x, y :: r => match mm isMax x y with
   | some z => mms isMax z r
   | none => none
def loadS (P : Program) (bl : Nat → Option Blk) (t : TypeId) (x : SV) : Option Eff :=
 match x with
 | .ptr id e o => match bl id with
   | some B => match B.kd with
     | .gone => none
     | _ => match aggT P t, szT P t with
       | some false, _ => match (B.get e)[o]? with
         | some s => some { need := decide (e < B.n), out := s, rd := [id] }
         | none => none
       | some true, some n => bif Nat.beq (((B.get e).drop o).take n).length n then some { need := decide (e < B.n), out := .agg (((B.get e).drop o).take n), rd := [id] } else none
       | _, _ => none
   | none => none
 | _ => none
def storeS (P : Program) (bl : Nat → Option Blk) (t : TypeId) (x v : SV) : Option Eff :=
 match x with
 | .ptr id e o => match bl id with
   | some B => match B.kd with
     | .own => match szT P t with
       | some n => bif Nat.beq v.cells.length n && v.cells.all SV.one && Nat.ble (o + v.cells.length) B.sz then some { need := decide (e < B.n), out := .val undef, wr := some (id, e, o, v.cells) } else none
       | none => none
     | _ => none
   | none => none
 | _ => none
def callB (P : Program) (bl : Nat → Option Blk) (b : Builtin) (ts : Array TypeId) (args : List SV) : Option Eff :=
 match b with
 | .len => match ts[0]?, args with
   | some t, [x] => pure1 (lenS P t x)
   | _, _ => none
 | .max => match args with
   | x :: r => pure1 (mms true x r)
   | [] => none
 | .min => match args with
   | x :: r => pure1 (mms false x r)
   | [] => none
 | _ => none
def target (tm : Nat → TV) (G : List (Nat × Bool)) (c : Call) : Option (FuncId × List SV) :=
 match c.callee with
 | .value f => match ev tm G f, evs tm G c.args.toList with
   | some (.fn (.func g) first caps), some args => some (g, first ++ args ++ caps)
   | _, _ => none
 | _ => none
def eff (P : Program) (Γ : FuncId → Option Ctr) (tm : Nat → TV) (bl : Nat → Option Blk) (G : List (Nat × Bool)) (id : Nat) (op : Op) : Option Eff :=
 match op with
 | .move x => pure1 (ev tm G x)
 | .assign x => pure1 (ev tm G x)
 | .pick c x y => match c with
   | .tmp t => match ev tm G c with
     | some (.val (.bool b)) => match ev tm ((t, true) :: G) x, ev tm ((t, false) :: G) y with
       | some x, some y => pure1 (mergeS b x y)
       | _, _ => none
     | _ => none
   | _ => none
 | .alloc t => match zeroS P t with
   | some cs => some { out := .ptr id 0 0, nw := some { n := 1, sz := cs.length, get := fun _ => cs, kd := .own } }
   | none => none
 | .box _ x => match ev tm G x with
   | some (.val (.agg _)) => none
   | some v => some { out := .ptr id 0 0, nw := some { n := 1, sz := v.cells.length, get := fun _ => v.cells, kd := .own } }
   | none => none
 | .build t parts => match zeroS P t, evParts tm G parts.toList with
   | some cs, some ps => match P.underlying t with
     | some (.struct fs) => match placesS P fs.toList with
       | some pl => match fillS (fun i => pl[i]?) cs ps with
         | some r => some { out := .agg r }
         | none => none
       | none => none
     | some (.array _ e) => match szT P e with
       | some s => match fillS (fun i => some (i * s, s)) cs ps with
         | some r => some { out := .agg r }
         | none => none
       | none => none
     | _ => none
   | _, _ => none
 | .buildSlice t n parts => match P.underlying t, evParts tm G parts.toList with
   | some (.slice e), some ps => match szT P e, zeroS P e with
     | some s, some z => bif Nat.beq z.length s && Nat.ble (n * s) 16777216 && Nat.ble 1 s then
        match fillS (fun i => some (i * s, s)) (List.replicate n z).flatten ps with
        | some r => some { out := .slc id 0 n, nw := some { n := n, sz := s, get := rowS r s, kd := .own } }
        | none => none
       else none
     | _, _ => none
   | _, _ => none
 | .load t x => match ev tm G x with
   | some a => loadS P bl t a
   | none => none
 | .store t x y => match ev tm G x, ev tm G y with
   | some a, some v => storeS P bl t a v
   | _, _ => none
 | .nilCheck x => match ev tm G x with
   | some (.ptr i e o) => some { out := .ptr i e o }
   | some (.fn (.func f) a c) => some { out := .fn (.func f) a c }
   | _ => none
 | .binOp op t x y _ => match ev tm G x, ev tm G y with
   | some a, some b => pure2 (binS P op t a b)
   | _, _ => none
 | .unOp op _ x => match ev tm G x with
   | some a => pure2 (unS op a)
   | none => none
 | .convert src dst x => match ev tm G x with
   | some (.val (.int k n)) => match P.underlying src, P.underlying dst with
     | some _, some (.int k') => some { need := inR k' n, out := .val (.int k' n) }
     | _, _ => none
   | some (.val (.string s)) => match P.underlying src, P.underlying dst with
     | some _, some .string => some { out := .val (.string s) }
     | _, _ => none
   | some (.slc i e n) => match P.underlying src, P.underlying dst, bl i with
     | some (.slice el), some .string, some B => match P.underlying el, B.kd with
       | some (.int .u8), .own => match bytesS B.get e n with
         | some r => bif Nat.beq B.sz 1 && B.nn && Nat.beq e 0 then some { need := decide (e + n ≤ B.n), out := .val (.string ⟨r.toArray⟩), rd := [i] } else none
         | none => none
       | _, _ => none
     | _, _, _ => none
   | _ => none
 | .makeFunc f a c => match evs tm G a.toList, evs tm G c.toList with
   | some a, some c => some { out := .fn f a c }
   | _, _ => none
 | .slice t x lo hi none => match ev tm G x, P.underlying t with
   | some (.val (.string s)), some .string => match ends s.size (lo.bind (ev tm G)) (hi.bind (ev tm G)) with
     | some (b, l, h) => bif (lo.isSome == (lo.bind (ev tm G)).isSome) && (hi.isSome == (hi.bind (ev tm G)).isSome) then some { need := b, out := .val (.string (s.extract l h)) } else none
     | none => none
   | some (.slc id e n), some (.slice el) => match ends n (lo.bind (ev tm G)) (hi.bind (ev tm G)), bl id, szT P el with
     | some (b, l, h), some B, some s => match B.kd with
       | .gone => none
       | _ => bif (lo.isSome == (lo.bind (ev tm G)).isSome) && (hi.isSome == (hi.bind (ev tm G)).isSome) && Nat.beq s B.sz then
          some { need := b && decide (e + n ≤ B.n) && (bif Nat.beq e 0 || Nat.beq l 0 then true else decide (e + l < B.n)), out := .slc id (e + l) (h - l), rd := [id] } else none
     | _, _, _ => none
   | _, _ => none
 | .fieldAddr t x i => match ev tm G x, fieldAt P t i with
   | some (.ptr id e o), some f => match szT P f.type with
     | some (_ + 1) => some { out := .ptr id e (o + f.offset) }
     | _ => none
   | _, _ => none
 | .field t x i => match ev tm G x, fieldAt P t i with
   | some (.agg cs), some f => pure1 (partS P f.type cs f.offset)
   | _, _ => none
 | .indexAddr t x i => match ev tm G x, ev tm G i with
   | some (.ptr id e o), some (.val (.int _ i)) => match P.underlying t with
     | some (.array n el) => match szT P el with
       | some s => some { need := decide (0 ≤ i) && decide (i < n), out := .ptr id e (o + i.toNat * s) }
       | none => none
     | _ => none
   | some (.slc id e n), some (.val (.int _ i)) => match P.underlying t, bl id with
     | some (.slice el), some B => match szT P el, B.kd with
       | some _, .gone => none
       | some s, _ => bif Nat.beq s B.sz then some { need := (bif B.nn && Nat.beq e 0 then decide (0 ≤ i) && decide (i < n) else decide (0 ≤ i) && decide (i < n) && decide (e + i.toNat < B.n)), out := .ptr id (e + i.toNat) 0, rd := [id] } else none
       | none, _ => none
     | _, _ => none
   | _, _ => none
 | .index t x i => match ev tm G x, ev tm G i with
   | some (.agg cs), some (.val (.int _ i)) => match P.underlying t with
     | some (.array n el) => match szT P el with
       | some 1 => match aggT P el with
         | some false => bif Nat.beq cs.length n then (match nthS P el cs i.toNat 1 with
           | some v => some { need := decide (0 ≤ i) && decide (i < n), out := v }
           | none => none) else none
         | _ => none
       | some s => match partS P el cs (i.toNat * s) with
         | some v => some { need := decide (0 ≤ i) && decide (i < n), out := v }
         | none => none
       | none => none
     | _ => none
   | some (.val (.string s)), some (.val (.int _ i)) => match P.underlying t with
     | some .string => some { need := decide (0 ≤ i) && decide (i < s.size), out := .val (.int .u8 (byteI s i.toNat)) }
     | _ => none
   | _, _ => none
 | .extract x i => match ev tm G x with
   | some (.tup vs) => pure1 vs[i]?
   | _ => none
 | .call c => match c.callee with
   | .builtin b => match evs tm G c.args.toList with
     | some args => callB P bl b c.argTypes args
     | none => none
   | _ => match target tm G c with
     | some (f, args) => match Γ f with
       | some k => pure2 (k args)
       | none => none
     | none => none
 | _ => none
def applyE (bl : Nat → Option Blk) (id : Nat) (E : Eff) : Nat → Option Blk :=
 let bl := match E.wr with
  | some (i, e, o, cs) => match bl i with
    | some B => upd bl i (B.put e o cs)
    | none => bl
  | none => bl
 match E.nw with
 | some B => upd bl id B
 | none => bl
end
section
def needB (b : Bool) (K : Prop) : Prop := match b with
 | true => K
 | false => False
def branch (b : Bool) (p q : Prop) : Prop := match b with
 | true => p
 | false => q
def impB (g n : Bool) : Bool := match n with
 | true => true
 | false => !g
abbrev Foot := List Nat × List Nat
def wrI (E : Eff) : List Nat := match E.wr with
 | some (i, _, _, _) => [i]
 | none => []
def nwI (id : Nat) (E : Eff) : List Nat := match E.nw with
 | some _ => [id]
 | none => []
def footE (id : Nat) (E : Eff) : Foot := (E.rd, wrI E ++ nwI id E)
def putD (A : AS) (d : Option Tmp) (v : TV) : Option AS :=
 match d with
 | none => some A
 | some d => bif Nat.blt d A.nt && !A.ok d then some (A.put d v) else none
def putG (A : AS) (d : Option Tmp) (t : Nat) (b : Bool) (s : SV) : Option AS :=
 match d with
 | none => some A
 | some d => bif Nat.blt d A.nt && !A.ok d && !Nat.beq d t then some { A.put d (.opt t b s) with og := fun x => bif Nat.beq x d then true else A.og x, ok := fun x => bif Nat.beq x t then true else A.ok x } else none
def fresh (A : AS) (id : Nat) : Bool := match A.bl id with
 | none => true
 | some _ => false
def step (P : Program) (Γ : FuncId → Option Ctr) (ops : Array Oper) (id : Nat) (o : Oper) (A : AS) : Option (Bool × AS × Foot) :=
 match o.guard with
 | none => match eff P Γ A.tm A.bl [] id o.op with
   | some E => bif fresh A id then match putD { A with bl := applyE A.bl id E } o.dst (.v E.out) with
     | some A' => some (E.need, A', footE id E)
     | none => none
     else none
   | none => none
 | some (j, b) => match (ops.toList[j]?).bind (·.dst) with
   | some t => match truth A.tm 9 t b, eff P Γ A.tm A.bl (known A.tm 9 t b) id o.op with
     | some g, some E => match E.wr, E.nw with
       | none, none => bif fresh A id then match putG A o.dst t b E.out with
         | some A' => some (impB g E.need, A', footE id E)
         | none => none
         else none
       | _, _ => none
     | _, _ => none
   | none => none
def hits (x y : List Nat) : Bool := x.any fun a => y.any (Nat.beq a)
def clash (f g : Foot) : Bool := hits f.2 g.1 || hits f.2 g.2 || hits f.1 g.2
def behind (ops : List Oper) : Nat → Nat → Nat → Bool
 | 0, _, _ => false
 | k + 1, i, x => match ops[i]? with
   | none => false
   | some o => o.after.toList.any fun e => Region.binds .any e && (Nat.beq e.on x || behind ops k e.on x)
def opsD (P : Program) (Γ : FuncId → Option Ctr) (ops : Array Oper) (base : Nat) : List Oper → Nat → AS → List Foot → (AS → List Foot → Prop) → Prop
 | [], _, A, tr, K => K A tr.reverse
 | o :: rest, i, A, tr, K => match step P Γ ops (base + i) o A with
   | some (b, A', f) => needB b (opsD P Γ ops base rest (i + 1) A' (f :: tr) K)
   | none => False
def free (ops : Array Oper) (l : List Oper) (tr : List Foot) : Bool :=
 (List.range l.length).all fun i => ((l[i]?).map fun o => o.after.toList.all fun e => !Region.binds .any e || Nat.blt e.on i).getD false &&
   (List.range i).all fun x => behind l l.length i x || match l[i]?, l[x]?, tr[i]?, tr[x]? with
   | some oi, some ox, some fi, some fx => Oper.apart ops ox oi && !clash fx fi
   | _, _, _, _ => false
def endG (A : AS) : AS := { A with tm := fun t => bif A.og t then .dead else A.tm t, og := fun _ => false, ok := fun _ => false }
abbrev Inl := FuncId → List SV → (Nat → Option Blk) → Nat → List Nat → (SV → (Nat → Option Blk) → Nat → List Nat → Prop) → Prop
def calledF (Γ : FuncId → Option Ctr) (A : AS) (o : Oper) : Option (FuncId × List SV) :=
 match o.guard, o.op with
 | none, .call c => match c.callee with
   | .value _ => match target A.tm [] c with
     | some (f, args) => match Γ f with
       | none => some (f, args)
       | some _ => none
     | none => none
   | _ => none
 | _, _ => none
def joinG (B C : Nat → List SV) (n e : Nat) : Nat → List SV := fun k => bif Nat.blt k n then B k else C (e + (k - n))
def allN : Nat → (Nat → Bool) → Bool
 | 0, _ => true
 | k + 1, f => f k && allN k f
def appE (P : Program) (A : AS) (t : TypeId) (x y : SV) : Option (Bool × (Nat → Option Blk) × SV × List Nat) :=
 match P.underlying t, y with
 | some (.slice el), .slc j e m => match P.info? el, A.bl j with
   | some inf, some C => match C.kd with
     | .gone => none
     | _ => bif Nat.beq C.sz inf.size && Nat.ble 1 inf.size && Nat.ble 1 inf.bytes && (match inf.zero with
        | some z => Nat.beq z.cells.size inf.size
        | none => false) then (match x with
       | .val (.slice none 0 0) => some (decide (0 < m) && decide (e + m ≤ C.n) && decide (m * inf.bytes ≤ 140737488355328) && allN m (fun k => (C.get (e + k)).all SV.one), upd A.bl A.nx { n := m, sz := C.sz, get := fun k => C.get (e + k), kd := .own }, .slc A.nx 0 m, [])
       | .slc i 0 n => match A.bl i with
         | some B => match B.kd with
           | .own => bif Nat.beq B.sz C.sz && !Nat.beq i j then
              some (decide (0 < m) && decide (e + m ≤ C.n) && decide (n ≤ B.n) && decide ((n + m) * inf.bytes ≤ 140737488355328) && allN m (fun k => (C.get (e + k)).all SV.one),
               upd (upd A.bl i { B with kd := .gone }) A.nx { n := n + m, sz := C.sz, get := joinG B.get C.get n e, kd := .own }, .slc A.nx 0 (n + m), [i]) else none
           | _ => none
         | none => none
       | _ => none) else none
   | _, _ => none
 | _, _ => none
def appF (A : AS) (o : Oper) : Option (TypeId × SV × SV) :=
 match o.guard, o.op with
 | none, .call c => match c.callee with
   | .builtin .append => match c.argTypes.toList, evs A.tm [] c.args.toList with
     | [t, t'], some [x, y] => bif Nat.beq t t' then some (t, x, y) else none
     | _, _ => none
   | _ => none
 | _, _ => none
def opsU (P : Program) (Γ : FuncId → Option Ctr) (inl : Inl) (ops : Array Oper) : List Oper → AS → (AS → Prop) → Prop
 | [], A, K => K A
 | o :: rest, A, K => match appF A o with
   | some (t, x, y) => (match appE P A t x y with
     | some (b, bl, r, k) => needB b (match putD { A with bl := bl, nx := A.nx + 1, wl := k ++ A.wl } o.dst (.v r) with
       | some A' => opsU P Γ inl ops rest A' K
       | none => False)
     | none => False)
   | none => match calledF Γ A o with
   | some (f, args) => inl f args A.bl A.nx A.wl fun r bl nx wl => match putD { A with bl := bl, nx := nx, wl := wl } o.dst (.v r) with
     | some A' => opsU P Γ inl ops rest A' K
     | none => False
   | none => match step P Γ ops A.nx o A with
     | some (b, A', f) => needB b (opsU P Γ inl ops rest { A' with nx := A'.nx + 1, wl := f.2 ++ A'.wl } K)
     | none => False
structure Hst where
 ef : Bool
 rd : List Nat
 wr : List Nat
 nx : Nat
def updH (h : Nat → Option Hst) (i : Nat) (e : Hst) : Nat → Option Hst := fun j => bif Nat.beq j i then some e else h j
def okM (ops : Array Oper) (h : Nat → Option Hst) (i : Nat) (ef : Bool) (rd wr : List Nat) : Bool :=
 (List.range i).all fun x => behind ops.toList ops.size i x || match h x, ops.toList[x]?, ops.toList[i]? with
   | none, _, _ => true
   | some e, some ox, some oi => Oper.apart ops ox oi && !(ef && e.ef) && !hits wr e.rd && !hits e.wr rd && (!e.ef || rd.all fun j => Nat.blt j e.nx)
   | some _, _, _ => false
def bigF (P : Program) (Γ : FuncId → Option Ctr) (inl : Inl) (A : AS) (o : Oper) : Option ((SV → (Nat → Option Blk) → Nat → List Nat → Prop) → Prop) :=
 match appF A o with
 | some (t, x, y) => some fun K => match appE P A t x y with
   | some (b, bl, r, k) => needB b (K r bl (A.nx + 1) (A.nx :: k))
   | none => False
 | none => match calledF Γ A o with
   | some (f, args) => some (inl f args A.bl A.nx [])
   | none => none
def opT (P : Program) (Γ : FuncId → Option Ctr) (inl : Inl) (ops : Array Oper) (A : AS) (o : Oper) (K : Bool → List Nat → List Nat → AS → Prop) : Prop :=
 match bigF P Γ inl A o with
 | some T => T fun r bl nx wl => match putD { A with bl := bl, nx := nx, wl := wl ++ A.wl } o.dst (.v r) with
   | some A' => K true [] wl A'
   | none => False
 | none => match step P Γ ops A.nx o A with
   | some (b, A', f) => needB b (match f.2 with
     | [] => K false f.1 [] A'
     | j :: l => K true f.1 (j :: l) { A' with nx := A'.nx + 1, wl := (j :: l) ++ A'.wl })
   | none => False
def opsM (P : Program) (Γ : FuncId → Option Ctr) (inl : Inl) (ops : Array Oper) : List Nat → AS → (Nat → Option Hst) → (AS → Prop) → Prop
 | [], A, _, K => K A
 | i :: rest, A, h, K => match ops.toList[i]? with
   | none => False
   | some o => opT P Γ inl ops A o fun ef rd wr A' => needB (okM ops h i ef rd wr) (opsM P Γ inl ops rest A' (updH h i ⟨ef, rd, wr, bif ef then A.nx else 0⟩) K)
def backOK (ops : Array Oper) : Bool := (List.range ops.size).all fun i => match ops.toList[i]? with
 | some o => o.after.toList.all fun e => !Region.binds .any e || Nat.blt e.on i
 | none => false
def slotPure (Γ : FuncId → Option Ctr) (A : AS) (ops : List Oper) : Nat → Operand → Bool
 | 0, _ => false
 | k + 1, x => match x with
   | .func f => (Γ f).isSome
   | .tmp t => match ops.find? fun o => match o.dst with
      | some d => Nat.beq d t
      | none => false with
     | some o => match o.op with
       | .move y => slotPure Γ A ops k y
       | .assign y => slotPure Γ A ops k y
       | _ => false
     | none => match A.tm t with
       | .v (.fn (.func f) _ _) => (Γ f).isSome
       | _ => false
   | _ => false
def hasBig (Γ : FuncId → Option Ctr) (A : AS) (ops : List Oper) : Bool := ops.any fun o => match o.op with
 | .call c => match c.callee with
   | .builtin .append => true
   | .builtin _ => false
   | .value f => !slotPure Γ A ops 9 f
   | _ => true
 | _ => false
def foots : List Foot → List Nat
 | [] => []
 | f :: r => f.2 ++ foots r
inductive Plc where
 | slot (t : Nat)
 | cell (id e o : Nat)
structure Gr (X : Type) where
 src : Plc
 sz : Nat
 n : X → Nat
 get : X → Nat → List SV
structure Ann where
 X : Type
 inv : X → Prop
 tm : X → List (Nat × SV)
 bk : List (Nat × (X → Nat → List SV)) := []
 st : List (Nat × (X → List SV)) := []
 gr : List (Gr X) := []
 mu : X → Nat
 keep : List Nat := []
 clean : ∀ p ∈ bk, ∀ x e, SV.idss (p.2 x e) = [] := by intro p hp x e; simp at hp
 sp : List (X → X) := []
 cleanG : ∀ g ∈ gr, ∀ x e, SV.idss (g.get x e) = [] := by intro g hg x e; simp at hg
def anyS {X : Type} (x : X) : List (X → X) → Prop
 | [] => False
 | f :: r => f x = x ∨ anyS x r
def allS {X : Type} (T : (X → X) → Prop) : List (X → X) → Prop
 | [] => True
 | f :: r => T f ∧ allS T r
def forX (N : Ann) (T : N.X → Prop) : Prop := match N.sp with
 | [] => ∀ x, N.inv x → T x
 | f :: r => (∀ x, N.inv x → anyS x (f :: r)) ∧ allS (fun g => ∀ x, N.inv (g x) → T (g x)) (f :: r)
theorem allS_any {X : Type} {T : X → Prop} {I : X → Prop} {x : X} (hx : I x) : ∀ {l : List (X → X)}, anyS x l → allS (fun g => ∀ x, I (g x) → T (g x)) l → T x
 | [], h, _ => h.elim
 | f :: r, h, k => by
   rcases h with h | h
   · have := k.1 x (by rw [h]; exact hx)
     rwa [h] at this
   · exact allS_any hx h k.2
theorem allS_mk {X : Type} {T : X → Prop} {I : X → Prop} (h : ∀ x, I x → T x) : ∀ {l : List (X → X)}, allS (fun g => ∀ x, I (g x) → T (g x)) l
 | [] => trivial
 | f :: r => ⟨fun x hx => h _ hx, allS_mk h⟩
theorem forX_all {N : Ann} {T : N.X → Prop} (h : forX N T) : ∀ x, N.inv x → T x := by
 unfold forX at h
 split at h
 · exact h
 · exact fun x hx => allS_any hx (h.1 x hx) h.2
theorem forX_mk {N : Ann} {T T' : N.X → Prop} (h : forX N T) (k : ∀ x, N.inv x → T' x) : forX N T' := by
 unfold forX at h ⊢
 split at h
 · exact k
 · exact ⟨h.1, allS_mk k⟩
def lookT : List (Nat × SV) → Nat → TV
 | [], _ => .dead
 | (u, s) :: r, t => bif Nat.beq t u then .v s else lookT r t
def keepL (A : AS) : List Nat → List (Nat × SV)
 | [] => []
 | t :: r => match A.tm t with
   | .v s => (t, s) :: keepL A r
   | _ => keepL A r
def Ann.all (N : Ann) (A : AS) (x : N.X) : List (Nat × SV) := N.tm x ++ keepL A N.keep
def headT (A : AS) (l : List (Nat × SV)) (ks : List Nat) (t : Nat) : TV := match lookT l t with
 | .v s => .v s
 | _ => bif ks.any (Nat.beq t) then (match A.tm t with
   | .v s => .v s
   | _ => .dead) else .dead
def srcS (A : AS) : Plc → Option SV
 | .slot t => match A.tm t with
   | .v s => some s
   | _ => none
 | .cell id e o => match A.bl id with
   | some B => (B.get e)[o]?
   | none => none
def srcs {X : Type} (A : AS) : List (Gr X) → Option (List (Option Nat))
 | [] => some []
 | g :: r => match srcS A g.src, srcs A r with
   | some (.slc i 0 _), some l => some (some i :: l)
   | some (.val (.slice none 0 0)), some l => some (none :: l)
   | _, _ => none
def someL : List (Option Nat) → List Nat
 | [] => []
 | some i :: r => i :: someL r
 | none :: r => someL r
def killed (A : AS) (N : Ann) : List Nat := match srcs A N.gr with
 | some l => someL l
 | none => []
def renI (b : Nat) (rs : List (Option Nat)) (i : Nat) : Option (Option Nat) := bif Nat.blt i b then some (some i) else rs[i - b]?
mutual
def SV.ren (b : Nat) (rs : List (Option Nat)) : SV → Option SV
 | .val v => some (.val v)
 | .ptr id e o => bif Nat.blt id b then some (.ptr id e o) else none
 | .slc id e len => match renI b rs id with
   | some (some i) => some (.slc i e len)
   | some none => some (.val (.slice none len 0))
   | none => none
 | .agg cs => (SV.rens b rs cs).map .agg
 | .tup cs => (SV.rens b rs cs).map .tup
 | .fn f a c => match SV.rens b rs a, SV.rens b rs c with
   | some a, some c => some (.fn f a c)
   | _, _ => none
def SV.rens (b : Nat) (rs : List (Option Nat)) : List SV → Option (List SV)
 | [] => some []
 | x :: xs => match SV.ren b rs x, SV.rens b rs xs with
   | some y, some ys => some (y :: ys)
   | _, _ => none
end
def lookB {X : Type} (bl : Nat → Option Blk) (x : X) : List (Nat × (X → Nat → List SV)) → Nat → Option Blk
 | [], i => bl i
 | (j, g) :: r, i => bif Nat.beq i j then (match bl i with
   | some B => some { B with get := g x }
   | none => none) else lookB bl x r i
def lookS {X : Type} (bl : Nat → Option Blk) (x : X) : List (Nat × (X → List SV)) → Nat → Option Blk
 | [], i => bl i
 | (j, g) :: r, i => bif Nat.beq i j then (match bl i with
   | some B => some { B with get := fun _ => g x }
   | none => none) else lookS bl x r i
def killB (bl : Nat → Option Blk) (ks : List Nat) (i : Nat) : Option Blk := bif ks.any (Nat.beq i) then (match bl i with
 | some B => some { B with kd := .gone }
 | none => none) else bl i
def grB {X : Type} (x : X) : List (Gr X) → Nat → Option Blk
 | [], _ => none
 | g :: _, 0 => some { n := g.n x, sz := g.sz, get := g.get x, kd := .own, nn := false }
 | _ :: r, i + 1 => grB x r i
def headB (A : AS) (N : Ann) (x : N.X) (i : Nat) : Option Blk :=
 bif Nat.blt i A.nx then lookB (lookS (killB A.bl (killed A N)) x N.st) x N.bk i else grB x N.gr (i - A.nx)
def headS (A : AS) (N : Ann) (x : N.X) : AS := { A with tm := headT A (N.tm x) N.keep, bl := headB A N x, nx := A.nx + N.gr.length, wl := [], og := fun _ => false, ok := fun _ => false }
def eqO (v : TV) (s : Option SV) : Prop := match s with
 | some s => v = .v s
 | none => False
def meetT (b : Nat) (rs : List (Option Nat)) (A : AS) : List (Nat × SV) → Prop
 | [] => True
 | (t, s) :: r => eqO (A.tm t) (s.ren b rs) ∧ meetT b rs A r
def allU : Nat → (Nat → Prop) → Prop
 | 0, _ => True
 | k + 1, f => f k ∧ allU k f
def meetB {X : Type} (A : AS) (x : X) : List (Nat × (X → Nat → List SV)) → Prop
 | [] => True
 | (i, g) :: r => (match A.bl i with
   | some B => match B.kd with
     | .gone => False
     | _ => allU B.n fun e => B.get e = g x e
   | none => False) ∧ meetB A x r
def meetC {X : Type} (b : Nat) (rs : List (Option Nat)) (A : AS) (x : X) : List (Nat × (X → List SV)) → Prop
 | [] => True
 | (i, g) :: r => (match A.bl i, SV.rens b rs (g x) with
   | some B, some cs => match B.kd with
     | .gone => False
     | _ => needB (Nat.beq B.n 1) (B.get 0 = cs)
   | _, _ => False) ∧ meetC b rs A x r
def meetG {X : Type} (A : AS) (x : X) : List (Gr X) → List (Option Nat) → Prop
 | [], [] => True
 | g :: r, some i :: l => (match A.bl i with
   | some B => match B.kd with
     | .own => needB (Nat.beq B.sz g.sz && decide (g.n x ≤ B.n)) (∀ e, e < g.n x → B.get e = g.get x e)
     | _ => False
   | none => False) ∧ meetG A x r l
 | g :: r, none :: l => g.n x = 0 ∧ meetG A x r l
 | _, _ => False
def noDup : List Nat → Bool
 | [] => true
 | i :: r => !(r.any (Nat.beq i)) && noDup r
def meets (first : Bool) (A A' : AS) (N : Ann) (x : N.X) : Prop := match srcs A' N.gr with
 | none => False
 | some rs => needB (noDup (someL rs) && (first || (someL rs).all (Nat.ble A.nx))) (meetT A.nx rs A' (N.all A x) ∧ meetB A' x N.bk ∧ meetC A.nx rs A' x N.st ∧ meetG A' x N.gr rs)
def wrote (nx : Nat) (wl : List Nat) (ids : List Nat) : Bool := wl.all fun i => Nat.ble nx i || ids.any (Nat.beq i)
def Ann.ids (N : Ann) (A : AS) : List Nat := N.bk.map (·.1) ++ N.st.map (·.1) ++ killed A N
def codeKey : Code → Nat
 | .region id _ _ => id
 | .seq a _ => codeKey a
 | .block _ c => codeKey c
 | .loop c => codeKey c
 | .scope c => codeKey c
 | .cond _ a _ => codeKey a
 | _ => 0
def unroll (body : (Exit → AS → Prop) → AS → Prop) : Nat → (Exit → AS → Prop) → AS → Prop
 | 0, _, _ => False
 | n + 1, K, A => body (fun e A' => match e with
   | .normal => unroll body n K A'
   | e => K e A') A
def loopA (body : (Exit → AS → Prop) → AS → Prop) (N : Ann) (K : Exit → AS → Prop) (A : AS) : Prop :=
 ∃ x0, N.inv x0 ∧ meets true A A N x0 ∧ forX N fun x =>
  body (fun e A' => match e with
   | .normal => needB (wrote A.nx A'.wl (N.ids A)) (∃ x', N.inv x' ∧ N.mu x' < N.mu x ∧ meets false A A' N x')
   | e => K e { A' with wl := N.ids A ++ A'.wl ++ A.wl }) (headS A N x)
def vc (P : Program) (Γ : FuncId → Option Ctr) (inl : Inl) (ann : Nat → Option (AS → Ann)) : Code → (Exit → AS → Prop) → AS → Prop
 | .skip, K, A => K .normal A
 | .label _, K, A => K .normal A
 | .seq a b, K, A => vc P Γ inl ann a (fun e A' => match e with
   | .normal => vc P Γ inl ann b K A'
   | e => K e A') A
 | .cond c t f, K, A => match ev A.tm [] c with
   | some (.val (.bool b)) => branch b (vc P Γ inl ann t K A) (vc P Γ inl ann f K A)
   | _ => False
 | .block id c, K, A => vc P Γ inl ann c (fun e A' => match e with
   | .exit i => bif Nat.beq i id then K .normal A' else K (.exit i) A'
   | e => K e A') A
 | .loop c, K, A => match ann (codeKey c) with
   | none => unroll (vc P Γ inl ann c) 40 K A
   | some N => loopA (vc P Γ inl ann c) (N A) K A
 | .scope c, K, A => vc P Γ inl ann c (fun e A' => match e with
   | .goto _ => False
   | e => K e A') A
 | .exit id, K, A => K (.exit id) A
 | .ret, K, A => K .ret A
 | .region _ ops draw, K, A => bif draw then bif hasBig Γ A ops.toList then
    needB (backOK ops) (opsM P Γ inl ops (List.range ops.size) A (fun _ => none) fun A' => K .normal (endG A'))
   else opsD P Γ ops A.nx ops.toList 0 A [] fun A' tr => needB (free ops ops.toList tr) (K .normal { endG A' with nx := A.nx + ops.size, wl := foots tr ++ A.wl })
   else opsU P Γ inl ops ops.toList A fun A' => K .normal (endG A')
 | _, _, _ => False
def resS (P : Program) (A : AS) : List ResultVar → Option (Bool × List SV)
 | [] => some (true, [])
 | .tmp t :: r => match A.tm t, resS P A r with
   | .v s, some (b, l) => some (b, s :: l)
   | _, _ => none
 | .cell t ty :: r => match A.tm t, resS P A r with
   | .v s, some (b, l) => match loadS P A.bl ty s with
     | some E => some (E.need && b, E.out :: l)
     | none => none
   | _, _ => none
def one1 : List SV → SV
 | [s] => s
 | l => .tup l
def enterS (args : List SV) (nt : Nat) (bl : Nat → Option Blk) (nx : Nat) (wl : List Nat) : AS :=
 { tm := fun t => match args[t]? with
    | some s => .v s
    | none => bif Nat.blt t nt then .v (.val undef) else .dead
   bl := bl, nx := nx, nt := max args.length nt, wl := wl, og := fun _ => false, ok := fun _ => false }
def addB (bl : Nat → Option Blk) (nx : Nat) (l : List Blk) (i : Nat) : Option Blk := bif Nat.blt i nx then bl i else l[i - nx]?
def inlN (P : Program) (ok : FuncId → Bool) (Γ : FuncId → Option Ctr) (Γm : FuncId → Option MCtr) (ann : FuncId → Nat → Option (AS → Ann)) : Nat → Inl
 | 0 => fun _ _ _ _ _ _ => False
 | n + 1 => fun f args bl nx wl K => bif ok f then match Γm f with
   | some k => (match k bl nx args with
     | some C => needB C.pre (∀ x, C.spec x → K (C.out x) (addB bl nx (C.nw x)) (nx + (C.nw x).length) wl)
     | none => False)
   | none => match P.funcs.toList[f]? with
   | some fn => match fn.body with
     | some c => vc P Γ (inlN P ok Γ Γm ann n) (ann f) c (fun e A => match e with
       | .normal => (match resS P A fn.results.toList with
         | some (b, l) => needB b (K (one1 l) A.bl A.nx A.wl)
         | none => False)
       | .ret => (match resS P A fn.results.toList with
         | some (b, l) => needB b (K (one1 l) A.bl A.nx A.wl)
         | none => False)
       | _ => False) (enterS args fn.ntmps bl nx wl)
     | none => False
   | none => False
   else False
end
section
variable {P : Program} (w : World)
structure FR (β : Nat → Loc) (A : AS) (a : Act) : Prop where
 defers : a.defers = []
 size : a.tmps.size = A.nt
 v : ∀ t s, A.tm t = .v s → a.tmps.getD t undef = s.conc β ∧ Live A.bl s
 opt : ∀ t u b s, A.tm t = .opt u b s → (a.tmps.getD u undef = .bool b → a.tmps.getD t undef = s.conc β ∧ Live A.bl s) ∧ (a.tmps.getD u undef ≠ .bool b → a.tmps.getD t undef = undef)
 os : ∀ t u b s, A.tm t = .opt u b s → A.og t = true ∧ A.ok u = true
def Knows (a : Act) (G : List (Nat × Bool)) : Prop := ∀ p ∈ G, a.tmps.getD p.1 undef = .bool p.2
theorem mem_memG {G : List (Nat × Bool)} {t : Nat} {b : Bool} (h : memG G t b = true) : (t, b) ∈ G := by
 induction G with
 | nil => simp [memG] at h
 | cons p r ih =>
   obtain ⟨u, c⟩ := p
   simp only [memG] at h
   by_cases h1 : (Nat.beq u t && (bif c then b else !b)) = true
   · simp only [Bool.and_eq_true] at h1
     have e1 := Nat.eq_of_beq_eq_true h1.1
     have e2 : c = b := by cases c <;> cases b <;> simp_all
     subst e1; subst e2; simp
   · simp only [Bool.not_eq_true] at h1
     simp only [h1, cond_false] at h
     exact List.mem_cons_of_mem _ (ih h)
theorem ev_sound {β : Nat → Loc} {A : AS} {a : Act} (h : FR β A a) {G : List (Nat × Bool)} (hG : Knows a G) {x : Operand} {s : SV} (he : ev A.tm G x = some s) :
 a.eval x = s.conc β ∧ Live A.bl s := by
 cases x with
 | tmp t =>
   simp only [ev] at he
   cases ht : A.tm t with
   | dead => simp [ht] at he
   | v s' =>
     simp [ht] at he; subst he
     exact h.v t _ ht
   | opt u b s' =>
     simp only [ht] at he
     cases hm : memG G u b with
     | false => simp [hm] at he
     | true =>
       simp [hm] at he; subst he
       obtain ⟨h1, _⟩ := h.opt t u b _ ht
       exact h1 (hG _ (mem_memG hm))
 | const c => simp [ev] at he; subst he; exact ⟨(ofV_conc β c).symm, fun i hi => by rw [ofV_ids] at hi; cases hi⟩
 | global g => simp [ev] at he; subst he; exact ⟨rfl, fun i hi => by simp [SV.ids] at hi⟩
 | func f => simp [ev] at he; subst he; exact ⟨by simp [SV.conc, SV.concs, Act.eval], fun i hi => by simp [SV.ids, SV.idss] at hi⟩
theorem evs_sound {β : Nat → Loc} {A : AS} {a : Act} (h : FR β A a) {G : List (Nat × Bool)} (hG : Knows a G) : ∀ {xs : List Operand} {l : List SV}, evs A.tm G xs = some l →
 xs.map a.eval = SV.concs β l ∧ ∀ s ∈ l, Live A.bl s
 | [], l, he => by simp [evs] at he; subst he; simp [SV.concs]
 | x :: xs, l, he => by
   simp only [evs] at he
   cases h1 : ev A.tm G x with
   | none => simp [h1] at he
   | some s =>
     cases h2 : evs A.tm G xs with
     | none => simp [h1, h2] at he
     | some r =>
       simp [h1, h2] at he; subst he
       obtain ⟨e1, e2⟩ := ev_sound h hG h1
       obtain ⟨e3, e4⟩ := evs_sound h hG h2
       exact ⟨by simp [SV.concs, e1, e3], by simp [e2]; exact e4⟩
theorem evParts_sound {β : Nat → Loc} {A : AS} {a : Act} (h : FR β A a) {G : List (Nat × Bool)} (hG : Knows a G) : ∀ {xs : List (Nat × Operand)} {l : List (Nat × SV)}, evParts A.tm G xs = some l →
 xs.map (fun p => (p.1, a.eval p.2)) = l.map (fun p => (p.1, p.2.conc β)) ∧ ∀ p ∈ l, Live A.bl p.2 ∧ ∀ c, p.2 ≠ .val (.agg c)
 | [], l, he => by simp [evParts] at he; subst he; simp
 | (i, x) :: xs, l, he => by
   simp only [evParts] at he
   split at he
   · cases he
   · rename_i s r hna h1 h2
     simp at he; subst he
     obtain ⟨e1, e2⟩ := ev_sound h hG h1
     obtain ⟨e3, e4⟩ := evParts_sound h hG h2
     refine ⟨by simp [e1, e3], ?_⟩
     intro p hp
     simp only [List.mem_cons] at hp
     rcases hp with rfl | hp
     · exact ⟨e2, fun c hc => hna c (by simpa using hc)⟩
     · exact e4 p hp
   · cases he
theorem truth_sound {β : Nat → Loc} {A : AS} {a : Act} (h : FR β A a) : ∀ (k t : Nat) (b g : Bool), truth A.tm k t b = some g → (g = true ↔ a.tmps.getD t undef = .bool b)
 | 0, t, b, g, he => by simp [truth] at he
 | k + 1, t, b, g, he => by
   simp only [truth] at he
   split at he
   · rename_i c ht
     simp at he; subst he
     have := (h.v t _ ht).1
     rw [this]
     cases b <;> cases c <;> simp [SV.conc]
   · rename_i t' b' c ht
     split at he
     · rename_i g' hg'
       simp at he; subst he
       have ih := truth_sound h k t' b' g' hg'
       obtain ⟨h1, h2⟩ := h.opt t t' b' _ ht
       constructor
       · intro hh
         simp only [Bool.and_eq_true] at hh
         rw [(h1 (ih.1 hh.1)).1]
         cases b <;> cases c <;> simp_all [SV.conc]
       · intro hh
         by_cases hg : g' = true
         · have := (h1 (ih.1 hg)).1
           rw [this] at hh
           cases b <;> cases c <;> simp_all [SV.conc]
         · have := h2 (fun e => hg (ih.2 e))
           rw [this] at hh
           simp [undef] at hh
     · cases he
   · cases he
theorem known_sound {β : Nat → Loc} {A : AS} {a : Act} (h : FR β A a) : ∀ (k t : Nat) (b : Bool), a.tmps.getD t undef = .bool b → Knows a (known A.tm k t b)
 | 0, t, b, _ => by intro p hp; simp [known] at hp
 | k + 1, t, b, ht => by
   intro p hp
   simp only [known, List.mem_cons] at hp
   rcases hp with rfl | hp
   · exact ht
   · split at hp
     · rename_i t' b' s hs
       obtain ⟨_, h2⟩ := h.opt t t' b' s hs
       by_cases hh : a.tmps.getD t' undef = .bool b'
       · exact known_sound h k t' b' hh p hp
       · rw [h2 hh] at ht; simp [undef] at ht
     · cases hp
section
theorem run_aggT {t : TypeId} {b : Bool} (h : aggT P t = some b) : (isAgg t).run P w = .ok b w := by
 unfold aggT at h
 split at h <;> simp at h <;> subst h <;> rename_i hu <;> simp [isAgg, run_underlying hu]
 all_goals (split <;> simp_all)
theorem run_szT {t : TypeId} {n : Nat} (h : szT P t = some n) : (sizeOf t).run P w = .ok n w := by
 unfold szT at h
 cases hi : P.info? t with
 | none => simp [hi] at h
 | some i => simp [hi] at h; simp [sizeOf, typeInfo, hi, h]
theorem run_zeroS {β : Nat → Loc} {t : TypeId} {cs : List SV} (h : zeroS P t = some cs) : ∃ v, (zeroValue t).run P w = .ok v w ∧ v.cells = (SV.concs β cs).toArray ∧ (∀ s ∈ cs, s.ids = []) := by
 unfold zeroS at h
 cases hi : P.info? t with
 | none => simp [hi] at h
 | some i =>
   cases hz : i.zero with
   | none => simp [hi, hz] at h
   | some v =>
     simp [hi, hz] at h
     subst h
     refine ⟨v, by simp [zeroValue, typeInfo, hi, hz], by rw [concs_val], ?_⟩
     intro s hs
     simp at hs
     obtain ⟨x, _, rfl⟩ := hs
     simp [SV.ids]
theorem run_partS {β : Nat → Loc} {t : TypeId} {cs : List SV} {off : Nat} {s : SV} (h : partS P t cs off = some s) : (part t (SV.concs β cs).toArray off).run P w = .ok (s.conc β) w ∧ (∀ i ∈ s.ids, i ∈ SV.idss cs) := by
 unfold partS at h
 split at h
 · rename_i n h1 h2
   simp at h; subst h
   refine ⟨?_, ?_⟩
   · simp only [part, Sem.run_bind, run_aggT w h1, Result.andThen_ok, if_true, Sem.run_ite, run_szT w h2, Sem.run_pure, SV.conc]
     congr 2
     apply Array.ext'
     simp [SV.concs_eq, List.extract_eq_take_drop]
   · intro i hi
     simp only [SV.ids] at hi
     obtain ⟨x, hx, hi⟩ := SV.mem_idss.1 hi
     exact SV.mem_idss.2 ⟨x, List.mem_of_mem_drop (List.mem_of_mem_take hx), hi⟩
 · rename_i h1
   refine ⟨?_, fun i hi => SV.mem_idss.2 ⟨s, List.mem_of_getElem? h, hi⟩⟩
   have : (SV.concs β cs).toArray[off]? = some (s.conc β) := by simp [SV.concs_eq, h]
   simp [part, run_aggT w h1, this]
 · cases h
end
theorem run_eqFS {P : Program} {β : Nat → Loc} {f : TypeId → SV → SV → Option Bool} {d : Nat} (hf : ∀ t x y b (w : World), f t x y = some b → (Op.equalIn d t (x.conc β) (y.conc β)).run P w = .ok b w) (xs ys : List SV) :
 ∀ (fs : List Field) (b : Bool) (w : World), eqFS P f xs ys fs = some b → (Op.eqFields d (SV.concs β xs).toArray (SV.concs β ys).toArray fs).run P w = .ok b w
 | [], b, w, h => by simp [eqFS] at h; subst h; simp [Op.eqFields]
 | fl :: fs, b, w, h => by
   simp only [eqFS] at h
   by_cases hn : fl.name = "_"
   · simp [hn] at h
   · simp only [hn, decide_false, cond_false] at h
     split at h
     · rename_i x y hx hy
       split at h
       · rename_i p q hp hq
         simp at h; subst h
         have ih := run_eqFS hf xs ys fs q w hq
         simp only [Op.eqFields, ne_eq, hn, not_false_eq_true, if_true, Sem.run_bind, (run_partS w hx).1, (run_partS w hy).1, Result.andThen_ok, hf _ _ _ _ w hp, Sem.run_ite]
         cases p
         · simp
         · simp [ih]
       · cases h
     · cases h
theorem run_eqES {P : Program} {β : Nat → Loc} {f : TypeId → SV → SV → Option Bool} {d : Nat} (hf : ∀ t x y b (w : World), f t x y = some b → (Op.equalIn d t (x.conc β) (y.conc β)).run P w = .ok b w) (e s : Nat) (xs ys : List SV) :
 ∀ (n i : Nat) (b : Bool) (w : World), eqES P f e s xs ys n i = some b →
  (forIn (m := Sem) (List.range' i n) (none, ()) (fun j (r : Option Bool × Unit) => do
    let a ← part e (SV.concs β xs).toArray (j * s)
    let c ← part e (SV.concs β ys).toArray (j * s)
    let q ← Op.equalIn d e a c
    if (!q) = true then pure (ForInStep.done (some false, ())) else pure (ForInStep.yield (none, ())))).run P w = .ok (if b then none else some false, ()) w
 | 0, i, b, w, h => by simp [eqES] at h; subst h; simp
 | n + 1, i, b, w, h => by
   simp only [eqES] at h
   split at h
   · rename_i x y hx hy
     split at h
     · rename_i p q hp hq
       simp at h; subst h
       have ih := run_eqES hf e s xs ys n (i + 1) q w hq
       simp only [List.range'_succ, List.forIn_cons, Sem.run_bind, (run_partS w hx).1, (run_partS w hy).1, Result.andThen_ok, hf _ _ _ _ w hp, Sem.run_ite]
       cases p
       · simp
       · simpa using ih
     · cases h
   · cases h
theorem eqS_sound {P : Program} {β : Nat → Loc} : ∀ (d d' : Nat) (t : TypeId) (x y : SV) (b : Bool) (w : World), d ≤ d' → eqS P d t x y = some b → (Op.equalIn d' t (x.conc β) (y.conc β)).run P w = .ok b w
 | 0, d', t, x, y, b, w, _, h => by simp [eqS] at h
 | d + 1, 0, t, x, y, b, w, hd, h => by omega
 | d + 1, d' + 1, t, x, y, b, w, hd, h => by
   have ih := fun t x y b w => eqS_sound (P := P) (β := β) d d' t x y b w (by omega)
   simp only [eqS] at h
   split at h
   · rename_i hu
     split at h <;> simp at h
     subst h
     exact run_equalIn_bool' w d' t _ _ hu
   · rename_i k hu
     split at h
     · rename_i k1 a k2 c
       cases hk : kEq k1 k2 with
       | false => simp [hk] at h
       | true =>
         simp [hk] at h; subst h
         have := kEq_eq hk
         subst this
         exact run_equalIn_int w d' t k1 k _ _ hu
     · cases h
   · rename_i hu
     split at h <;> simp at h
     subst h
     rw [seq_eq]
     exact run_equalIn_string w d' t _ _ hu
   · rename_i fs hu
     split at h
     · rename_i xs ys
       cases hs : P.stoodInHeld t with
       | true => simp [hs] at h
       | false =>
         simp [hs] at h
         have hfo : P.fieldsOf t = fs := by simp [Program.fieldsOf, hu]
         have := run_equalIn_struct (P := P) w d' t (SV.concs β xs).toArray (SV.concs β ys).toArray (by rw [hfo]; exact hu) hs
         simp only [SV.conc, this, hfo]
         exact run_eqFS (fun t x y b w h => ih t x y b w h) xs ys fs.toList b w h
     · cases h
   · rename_i n e hu
     split at h
     · rename_i xs ys
       split at h
       · rename_i s hs
         have := run_eqES (P := P) (β := β) (fun t x y b w h => ih t x y b w h) e s xs ys n 0 b w h
         simp only [SV.conc, Op.equalIn, Sem.run_bind, run_underlying hu, Result.andThen_ok, run_szT w hs]
         rw [Std.Legacy.Range.forIn_eq_forIn_range']
         simp only [Std.Legacy.Range.size, Nat.sub_zero, Nat.add_sub_cancel, Nat.div_one]
         rw [this]
         cases b <;> simp
       · cases h
     · cases h
   · cases h
end
section
variable {P : Program} {β : Nat → Loc}
theorem binI_sound {op : BinOp} {k k' : IntKind} {a b : Int} {n : Bool} {s : SV} (h : binI op k k' a b = some (n, s)) (hn : n = true) (t : TypeId) (w : World) :
 (binOp op t (.int k a) (.int k' b)).run P w = .ok (s.conc β) w := by
 unfold binI at h
 split at h
 · simp at h
   obtain ⟨h1, h2⟩ := h
   subst h1; subst h2
   simp at hn
   have h0 : ¬ b < 0 := by omega
   simp [binOp, Op.shift, h0, SV.conc, wrap_inR hn.2]
 · simp at h
   obtain ⟨h1, h2⟩ := h
   subst h1; subst h2
   simp at hn
   have h0 : ¬ b < 0 := by omega
   simp [binOp, Op.shift, h0, SV.conc]
 · rename_i op h1 h2
   cases hk : kEq k k' with
   | false => simp [hk] at h
   | true =>
     have := kEq_eq hk
     subst this
     simp only [hk, cond_true] at h
     split at h <;> simp only [Option.some.injEq, Prod.mk.injEq, reduceCtorEq] at h <;> (obtain ⟨h3, h4⟩ := h; subst h3; subst h4)
     · simp [binOp, Op.intArith, SV.conc, wrap_inR hn]
     · simp [binOp, Op.intArith, SV.conc, wrap_inR hn]
     · simp [binOp, Op.intArith, SV.conc, wrap_inR hn]
     · simp at hn; simp [binOp, Op.intDiv, SV.conc, hn.1, wrap_inR hn.2]
     · simp at hn; simp [binOp, Op.intDiv, SV.conc, hn]
     · simp [binOp, Op.intCmp, SV.conc]
     · simp [binOp, Op.intCmp, SV.conc]
     · simp [binOp, Op.intCmp, SV.conc]
     · simp [binOp, Op.intCmp, SV.conc]
     · simp [binOp, Op.intCmp, SV.conc]
     · simp [binOp, Op.intCmp, SV.conc]
theorem binStr_sound {op : BinOp} {a b : ByteArray} {n : Bool} {s : SV} (h : binStr op a b = some (n, s)) (hn : n = true) (t : TypeId) (w : World) :
 (binOp op t (.string a) (.string b)).run P w = .ok (s.conc β) w := by
 unfold binStr at h
 split at h <;> simp only [Option.some.injEq, Prod.mk.injEq, reduceCtorEq] at h <;> (obtain ⟨h3, h4⟩ := h; subst h3; subst h4)
 · simp at hn
   have : ¬ (((a.size + b.size : Nat) : Int) > IntKind.i64.max) := by simp; omega
   simp only [binOp, Op.stringOp, this, if_false, Sem.run_pure, SV.conc]
 all_goals simp [binOp, Op.stringOp, SV.conc, seq_eq, ByteArray.toList_eq]
theorem eqOp_sound {op : BinOp} {t : TypeId} {x y : SV} {n : Bool} {s : SV} (h : eqOp P op t x y = some (n, s)) (w : World) :
 ∃ b, eqS P 9 t x y = some b ∧ ((op = .eql ∧ s.conc β = .bool b) ∨ (op = .neq ∧ s.conc β = .bool (!b))) := by
 unfold eqOp at h
 split at h <;> simp at h
 · rename_i b hb; obtain ⟨_, rfl⟩ := h; exact ⟨b, hb, .inl ⟨rfl, rfl⟩⟩
 · rename_i b hb; obtain ⟨_, rfl⟩ := h; exact ⟨b, hb, .inr ⟨rfl, rfl⟩⟩
theorem eqGuard_agg_of {op : BinOp} {t : TypeId} {x y : Operand} {a b : Array Value} (h : P.eqGuardType P.depth t = false) (w : World) :
 (eqGuard op t x y (.agg a) (.agg b)).run P w = .ok () w := by
 cases op <;> simp [eqGuard, h]
theorem binS_sound {op : BinOp} {t : TypeId} {x y : SV} {n : Bool} {s : SV} (h : binS P op t x y = some (n, s)) (hn : n = true) (X Y : Operand) (w : World) :
 (do eqGuard op t X Y (x.conc β) (y.conc β); binOp op t (x.conc β) (y.conc β)).run P w = .ok (s.conc β) w := by
 unfold binS at h
 split at h
 · rename_i k a k' b
   have := binI_sound (P := P) (β := β) h hn t w
   simp [SV.conc, eqGuard_at_int, this]
 · rename_i a b
   have := binStr_sound (P := P) (β := β) h hn t w
   simp [SV.conc, eqGuard_at_string, this]
 · rename_i a b
   obtain ⟨c, hc, h1⟩ := eqOp_sound (β := β) h w
   have he := eqS_sound (β := β) 9 10000 t _ _ c w (by omega) hc
   rcases h1 with ⟨rfl, h2⟩ | ⟨rfl, h2⟩
   · rw [h2]; simp only [SV.conc, eqGuard_at_bool, Sem.run_bind, Sem.run_pure, Result.andThen_ok] at he ⊢
     simp only [binOp, Op.equal, Op.maxDepth, Sem.run_bind, he, Result.andThen_ok, Sem.run_pure]
   · rw [h2]; simp only [SV.conc, eqGuard_at_bool, Sem.run_bind, Sem.run_pure, Result.andThen_ok] at he ⊢
     simp only [binOp, Op.equal, Op.maxDepth, Sem.run_bind, he, Result.andThen_ok, Sem.run_pure]
 · rename_i xs ys
   cases hg : P.eqGuardType P.depth t with
   | true => simp [hg] at h
   | false =>
     simp only [hg, cond_false] at h
     obtain ⟨c, hc, h1⟩ := eqOp_sound (β := β) h w
     have he := eqS_sound (β := β) 9 10000 t _ _ c w (by omega) hc
     rcases h1 with ⟨rfl, h2⟩ | ⟨rfl, h2⟩
     · rw [h2]; simp only [SV.conc, Sem.run_bind, eqGuard_agg_of hg, Result.andThen_ok] at he ⊢
       simp only [binOp, Op.equal, Op.maxDepth, Sem.run_bind, he, Result.andThen_ok, Sem.run_pure]
     · rw [h2]; simp only [SV.conc, Sem.run_bind, eqGuard_agg_of hg, Result.andThen_ok] at he ⊢
       simp only [binOp, Op.equal, Op.maxDepth, Sem.run_bind, he, Result.andThen_ok, Sem.run_pure]
 · cases h
theorem unS_sound {op : UnOp} {x s : SV} {n : Bool} (h : unS op x = some (n, s)) (hn : n = true) (w : World) : (Op.unary op (x.conc β)).run P w = .ok (s.conc β) w := by
 unfold unS at h
 split at h <;> simp at h
 · obtain ⟨rfl, rfl⟩ := h
   have := wrap_inR hn
   simp [SV.conc, Op.unary, Op.intArith, this]
 · obtain ⟨rfl, rfl⟩ := h
   simp [SV.conc, Op.unary]
theorem run_sliceBound_ok {k : IntKind} {i : Int} {y : Nat} {code : BoundsCode} (h0 : 0 ≤ i) (h1 : i ≤ y) (w : World) : (Instr.sliceBound (.int k i) y code).run P w = .ok i.toNat w := by
 simp [Instr.sliceBound, asIntOf, h0, h1]
theorem ends_sound2 {n cap : Nat} {lo hi : Option SV} {b : Bool} {l h : Nat} (he : ends n lo hi = some (b, l, h)) (hb : b = true) (hc : n ≤ cap) (isS : Bool) (w : World) :
 (Instr.sliceBounds isS n cap (lo.map (SV.conc β)) (hi.map (SV.conc β)) none).run P w = .ok (l, h, cap) w ∧ l ≤ h ∧ h ≤ n := by
 unfold ends at he
 split at he <;> simp at he
 · obtain ⟨_, rfl, rfl⟩ := he
   exact ⟨by simp [Instr.sliceBounds], by omega, by omega⟩
 · obtain ⟨h1, rfl, rfl⟩ := he
   subst hb; simp at h1
   exact ⟨by simp [Instr.sliceBounds, SV.conc, run_sliceBound_ok (y := cap) h1.1 (by omega)], by omega, by omega⟩
 · obtain ⟨h1, rfl, rfl⟩ := he
   subst hb; simp at h1
   exact ⟨by simp [Instr.sliceBounds, SV.conc, run_sliceBound_ok h1.1 h1.2], by omega, by omega⟩
 · rename_i k1 l1 k2 h2
   obtain ⟨h1, rfl, rfl⟩ := he
   subst hb; simp at h1
   obtain ⟨⟨h3, h4⟩, h5⟩ := h1
   have h6 : 0 ≤ h2 := by omega
   exact ⟨by simp [Instr.sliceBounds, SV.conc, run_sliceBound_ok (y := cap) h6 (by omega), run_sliceBound_ok (y := h2.toNat) h3 (by omega)], by omega, by omega⟩
theorem ends_sound {n : Nat} {lo hi : Option SV} {b : Bool} {l h : Nat} (he : ends n lo hi = some (b, l, h)) (hb : b = true) (isS : Bool) (w : World) :
 (Instr.sliceBounds isS n n (lo.map (SV.conc β)) (hi.map (SV.conc β)) none).run P w = .ok (l, h, n) w ∧ l ≤ h ∧ h ≤ n := ends_sound2 he hb (Nat.le_refl _) isS w
theorem byteI_sound {s : ByteArray} {i : Int} (h0 : 0 ≤ i) (h1 : i < s.size) : (if 0 ≤ i then s[i.toNat]? else none).map (fun b => (b.toNat : Int)) = some (byteI s i.toNat) := by
 have hlt : i.toNat < s.size := by omega
 rw [if_pos h0, ByteArray.getElem?_lt' s _ hlt]
 unfold byteI
 have : s.data.toList[i.toNat]? = some s[i.toNat] := by
  rw [List.getElem?_eq_getElem (by simpa using hlt)]
  simp [ByteArray.getElem_eq_getElem_data]
 rw [this]; rfl
theorem foldl_put (off : Nat) : ∀ (vs : List Value) (k : Nat) (arr : Array Value) (i : Nat), off + k + vs.length ≤ arr.size →
 ((vs.zipIdx k).foldl (fun (cs : Array Value) (x : Value × Nat) => cs.setIfInBounds (off + x.2) x.1) arr)[i]? = if off + k ≤ i ∧ i < off + k + vs.length then vs[i - (off + k)]? else arr[i]?
 | [], k, arr, i, _ => by simp; omega
 | v :: vs, k, arr, i, h => by
   simp only [List.zipIdx_cons, List.foldl_cons, List.length_cons] at h ⊢
   rw [foldl_put off vs (k + 1) _ i (by simp; omega)]
   by_cases h1 : i = off + k
   · subst h1
     rw [if_neg (by omega), if_pos (by omega)]
     simp [Array.getElem?_setIfInBounds]
     omega
   · by_cases h2 : off + (k + 1) ≤ i ∧ i < off + (k + 1) + vs.length
     · rw [if_pos h2, if_pos (by omega), show i - (off + k) = (i - (off + (k + 1))) + 1 by omega]
       simp
     · rw [if_neg h2, if_neg (by omega), Array.getElem?_setIfInBounds_ne (by omega)]
theorem fill_sound {place : Nat → Option (Nat × Nat)} : ∀ (ps : List (Nat × SV)) (cs r : List SV), fillS place cs ps = some r → (∀ p ∈ ps, ∀ c, p.2 ≠ .val (.agg c)) →
 Instr.fill place (SV.concs β cs).toArray (ps.map fun p => (p.1, p.2.conc β)) = some (SV.concs β r).toArray ∧ (∀ s ∈ r, s ∈ cs ∨ ∃ p ∈ ps, s ∈ p.2.cells) ∧ r.length = cs.length
 | [], cs, r, h, _ => by simp [fillS] at h; subst h; exact ⟨rfl, fun s hs => .inl hs, rfl⟩
 | (i, v) :: ps, cs, r, h, hv => by
   simp only [fillS] at h
   split at h
   · cases h
   · rename_i off size hp
     cases hc : (Nat.beq v.cells.length size && Nat.ble (off + v.cells.length) cs.length) with
     | false => simp [hc] at h
     | true =>
       simp only [hc, cond_true] at h
       simp only [Bool.and_eq_true] at hc
       have e1 := Nat.eq_of_beq_eq_true hc.1
       have e2 := Nat.le_of_ble_eq_true hc.2
       obtain ⟨ih1, ih2, ih3⟩ := fill_sound ps _ r h (fun p hp => hv p (List.mem_cons_of_mem _ hp))
       have hcells := SV.cells_conc β v (hv (i, v) (by simp))
       refine ⟨?_, ?_, by rw [ih3, splice_length e2]⟩
       · simp only [List.map_cons, Instr.fill, hp]
         have hl : (v.conc β).cells.size = v.cells.length := by rw [hcells, SV.concs_eq]; simp
         rw [hl, if_neg (by rw [e1]; simp [SV.concs_eq]; omega)]
         have hs : Array.foldl (fun cs x => match x with | (c, j) => cs.setIfInBounds (off + j) c) (SV.concs β cs).toArray (v.conc β).cells.zipIdx = (SV.concs β (splice cs off v.cells)).toArray := by
          rw [hcells]
          apply Array.ext_getElem?
          intro i
          have := foldl_put off (SV.concs β v.cells) 0 (SV.concs β cs).toArray i (by simp [SV.concs_eq]; omega)
          rw [← Array.foldl_toList]
          simp only [Array.toList_zipIdx]
          rw [this]
          simp only [SV.concs_eq, List.getElem?_toArray, List.getElem?_map, splice_get e2, List.length_map, Nat.add_zero]
          split <;> rfl
         rw [hs]
         exact ih1
       · intro s hs
         rcases ih2 s hs with h1 | ⟨p, hp, h1⟩
         · unfold splice at h1
           simp only [List.mem_append] at h1
           rcases h1 with (h1 | h1) | h1
           · exact .inl (List.mem_of_mem_take h1)
           · exact .inr ⟨(i, v), by simp, h1⟩
           · exact .inl (List.mem_of_mem_drop h1)
         · exact .inr ⟨p, List.mem_cons_of_mem _ hp, h1⟩
end
section
variable {P : Program} {β : Nat → Loc} {W0 : World}
theorem addr_add (id e o j : Nat) : (addr β id e o).add j = addr β id e (o + j) := by
 unfold addr Addr.add
 split
 · subst_vars; simp
 · simp; omega
theorem loadS_sound {bl : Nat → Option Blk} {w : World} (hbc : BC W0 bl β w) {t : TypeId} {x : SV} {E : Eff} (he : loadS P bl t x = some E) (hn : E.need = true) :
 ∃ a, x.conc β = .pointer (some a) ∧ (loadVar t a).run P w = .ok (E.out.conc β) w ∧ Live bl E.out ∧ E.wr = none ∧ E.nw = none := by
 unfold loadS at he
 split at he
 · rename_i id e o
   split at he
   · rename_i B hB
     have key : B.kd ≠ .gone → (match aggT P t, szT P t with
      | some false, _ => match (B.get e)[o]? with
        | some s => some ({ need := decide (e < B.n), out := s, rd := [id] } : Eff)
        | none => none
      | some true, some n => bif Nat.beq (((B.get e).drop o).take n).length n then some { need := decide (e < B.n), out := .agg (((B.get e).drop o).take n), rd := [id] } else none
      | _, _ => none) = some E → ∃ a, (SV.ptr id e o).conc β = .pointer (some a) ∧ (loadVar t a).run P w = .ok (E.out.conc β) w ∧ Live bl E.out ∧ E.wr = none ∧ E.nw = none := by
      intro hg he
      have q := hbc.blk id B hB hg
      refine ⟨addr β id e o, rfl, ?_⟩
      split at he
      · rename_i ht
        split at he
        · rename_i s hs
          simp at he; subst he
          simp at hn
          refine ⟨?_, hbc.live id B e o s hB hg hn hs, rfl, rfl⟩
          simp [loadVar, run_aggT w ht, q.val e hn o s hs]
        · cases he
      · rename_i n ht hsz
        cases hl : Nat.beq (((B.get e).drop o).take n).length n with
        | false => rw [hl] at he; simp at he
        | true =>
          rw [hl] at he
          simp only [cond_true, Option.some.injEq] at he; subst he
          simp only [decide_eq_true_eq] at hn
          have hlen := Nat.eq_of_beq_eq_true hl
          refine ⟨?_, ?_, rfl, rfl⟩
          · have hc := run_loadCells_list (P := P) w (addr β id e o) (SV.concs β (((B.get e).drop o).take n)) (fun j v hv => by
             rw [addr_add]
             rw [SV.concs_eq, List.getElem?_map] at hv
             cases hj : (((B.get e).drop o).take n)[j]? with
             | none => simp [hj] at hv
             | some s =>
               simp [hj] at hv; subst hv
               refine q.val e hn (o + j) s ?_
               have hjn : j < n := by
                rcases Nat.lt_or_ge j n with h' | h'
                · exact h'
                · rw [List.getElem?_eq_none (by omega)] at hj; cases hj
               rw [List.getElem?_take_of_lt hjn, List.getElem?_drop] at hj
               exact hj)
            have hl2 : (SV.concs β (((B.get e).drop o).take n)).length = n := by rw [SV.concs_eq, List.length_map, hlen]
            rw [hl2] at hc
            simp only [loadVar, Sem.run_bind, run_aggT w ht, Result.andThen_ok, if_true, run_szT w hsz, hc, Sem.run_pure, SV.conc]
          · intro i hi
            simp only [SV.ids] at hi
            obtain ⟨s, hs, hi⟩ := SV.mem_idss.1 hi
            have hs' := List.mem_of_mem_drop (List.mem_of_mem_take hs)
            obtain ⟨k, hk, hks⟩ := List.mem_iff_getElem.1 hs'
            exact hbc.live id B e k s hB hg hn (by rw [List.getElem?_eq_getElem hk, hks]) i hi
      · cases he
     split at he
     · cases he
     · rename_i hk
       exact key (fun e => hk e) he
   · cases he
 · cases he
theorem storeS_sound {bl : Nat → Option Blk} {w : World} (hbc : BC W0 bl β w) {t : TypeId} {x v : SV} {E : Eff} (he : storeS P bl t x v = some E) (hn : E.need = true) (hv : Live bl v) :
 ∃ a id e o B w', x.conc β = .pointer (some a) ∧ (storeVar t a (v.conc β)).run P w = .ok () w' ∧ bl id = some B ∧ E.wr = some (id, e, o, v.cells) ∧ E.nw = none ∧ E.out = .val undef ∧ BC W0 (upd bl id (B.put e o v.cells)) β w' := by
 unfold storeS at he
 split at he
 · rename_i id e o
   split at he
   · rename_i B hB
     split at he
     · rename_i hk
       split at he
       · rename_i n hsz
         cases hc : (Nat.beq v.cells.length n && v.cells.all SV.one && Nat.ble (o + v.cells.length) B.sz) with
         | false => rw [hc] at he; simp at he
         | true =>
           rw [hc] at he
           simp only [cond_true, Option.some.injEq] at he; subst he
           simp only [decide_eq_true_eq] at hn
           simp only [Bool.and_eq_true, List.all_eq_true] at hc
           have e1 := Nat.eq_of_beq_eq_true hc.1.1
           have e2 := Nat.le_of_ble_eq_true hc.2
           have hone := hc.1.2
           have hna : ∀ cs, v ≠ .val (.agg cs) := fun cs hh => by
            subst hh
            have := hone (.val (.agg cs)) (by simp [SV.cells])
            simp [SV.one, Value.oneCell'] at this
           have hcl := SV.cells_conc β v hna
           have q := hbc.blk id B hB (by rw [hk]; simp)
           have hlive : ∀ s ∈ v.cells, Live bl s := by
            intro s hs
            cases v with
            | agg cs => exact fun i hi => hv i (by simp only [SV.ids]; exact SV.mem_idss.2 ⟨s, hs, hi⟩)
            | _ => simp [SV.cells] at hs; subst hs; exact hv
           refine ⟨addr β id e o, id, e, o, B, _, rfl, ?_, hB, rfl, rfl, rfl, hbc.write hB hk hn e2 hlive⟩
           have hlen : (SV.concs β v.cells).length = v.cells.length := by rw [SV.concs_eq]; simp
           have hin : ∀ j, j < v.cells.length → e * B.sz + o + j < (β id).cap * B.sz := fun j hj => by
            have := cell_lt (e := e) (o := o + j) (n := (β id).cap) (sz := B.sz) (by have := q.le; omega) (by omega)
            omega
           have hst := run_storeCells_cells (P := P) (β id).blk ((β id).off + e * (β id).sz + o) (SV.concs β v.cells) 0 w
            (fun j hj => by
              have := q.ex (e * B.sz + o + j) (hin j (by omega))
              rw [q.sz]
              rwa [show (β id).off + e * B.sz + o + 0 + j = (β id).off + (e * B.sz + o + j) by omega])
            (fun j hj => by
              have := q.fr hk (e * B.sz + o + j) (hin j (by omega))
              rw [q.sz]
              rwa [show (β id).off + e * B.sz + o + 0 + j = (β id).off + (e * B.sz + o + j) by omega])
            (fun u hu => by
              rw [SV.concs_eq] at hu
              obtain ⟨s, hs, rfl⟩ := List.mem_map.1 hu
              exact SV.one_conc β (hone s hs))
           have hsz2 : (SV.concs β v.cells).toArray.size = n := by simp [SV.concs_eq, e1]
           simp only [storeVar, Sem.run_bind, run_szT w hsz, Result.andThen_ok, Sem.run_ite, ne_eq, hcl, hsz2, not_true_eq_false, if_false, Nat.add_zero] at hst ⊢
           exact hst
       · cases he
     · cases he
   · cases he
 · cases he
def CtrOK (P : Program) (W0 : World) (f : FuncId) (k : Ctr) : Prop :=
 ∀ (β : Nat → Loc) (w : World) (args : List SV) (b : Bool) (s : SV), Below W0.heap.size W0 w → k args = some (b, s) → b = true →
  s.ids = [] ∧ Calls P f (SV.concs β args).toArray w fun e w' => e = .returned (s.conc β) ∧ Below w.heap.size w w'
def Callable (P : Program) (f : FuncId) : Prop := ∀ (args : Array Value) (w : World), (callFunc f args).run P w = .ok (.enter f args) w
structure GamOK (P : Program) (W0 : World) (Γ : FuncId → Option Ctr) : Prop where
 ctr : ∀ f k, Γ f = some k → CtrOK P W0 f k
 call : ∀ f k, Γ f = some k → Callable P f
theorem target_sound {A : AS} {a : Act} (h : FR β A a) {G : List (Nat × Bool)} (hG : Knows a G) {c : Call} {f : FuncId} {args : List SV} (ht : target A.tm G c = some (f, args)) (hf : Callable P f) (ty : TypeId) (w : World) :
 (do let d ← resolve a.eval c ty; invoke d.target d.args).run P w = .ok (.enter f (SV.concs β args).toArray) w ∧ ∀ s ∈ args, Live A.bl s := by
 unfold target at ht
 split at ht
 · rename_i x hx
   split at ht
   · rename_i g first caps as hfn has
     simp only [Option.some.injEq, Prod.mk.injEq] at ht
     obtain ⟨rfl, rfl⟩ := ht
     obtain ⟨e1, l1⟩ := ev_sound h hG hfn
     obtain ⟨e2, l2⟩ := evs_sound h hG has
     refine ⟨?_, ?_⟩
     · have e3 : c.args.map a.eval = (SV.concs β as).toArray := by apply Array.ext'; simp [e2]
       simp only [resolve, hx, e1, e3, SV.conc, Deferred.ofValue, Sem.run_bind, Sem.run_pure, Result.andThen_ok, invoke]
       have := hf ((SV.concs β first).toArray ++ (SV.concs β as).toArray ++ (SV.concs β caps).toArray) w
       rw [this]
       congr 2
       apply Array.ext'
       simp [SV.concs_eq]
     · intro s hs
       simp only [List.mem_append] at hs
       rcases hs with (hs | hs) | hs
       · exact fun i hi => l1 i (by simp only [SV.ids, List.mem_append]; exact .inl (SV.mem_idss.2 ⟨s, hs, hi⟩))
       · exact l2 s hs
       · exact fun i hi => l1 i (by simp only [SV.ids, List.mem_append]; exact .inr (SV.mem_idss.2 ⟨s, hs, hi⟩))
   · cases ht
 · cases ht
theorem target_sound_live {A : AS} {a : Act} (h : FR β A a) {c : Call} {f : FuncId} {args : List SV} (ht : target A.tm [] c = some (f, args)) : True ∧ ∀ s ∈ args, Live A.bl s := by
 refine ⟨trivial, ?_⟩
 unfold target at ht
 split at ht
 · split at ht
   · rename_i g first caps as hfn has
     simp only [Option.some.injEq, Prod.mk.injEq] at ht
     obtain ⟨rfl, rfl⟩ := ht
     have l1 := (ev_sound h (G := []) (fun p hp => by cases hp) hfn).2
     have l2 := (evs_sound h (G := []) (fun p hp => by cases hp) has).2
     intro s hs'
     simp only [List.mem_append] at hs'
     rcases hs' with (hs' | hs') | hs'
     · exact fun i hi => l1 i (by simp only [SV.ids, List.mem_append]; exact .inl (SV.mem_idss.2 ⟨s, hs', hi⟩))
     · exact l2 s hs'
     · exact fun i hi => l1 i (by simp only [SV.ids, List.mem_append]; exact .inr (SV.mem_idss.2 ⟨s, hs', hi⟩))
   · cases ht
 · cases ht
theorem mms_sound {m : Bool} : ∀ (x : SV) (l : List SV) (s : SV) (w : World), mms m x l = some s →
 ((SV.concs β l).foldlM (if m then Builtin.max2 else Builtin.min2) (x.conc β)).run P w = .ok (s.conc β) w ∧ (s = x ∨ s.ids = [])
 | x, [], s, w, h => by simp [mms] at h; subst h; simp [SV.concs]
 | x, y :: r, s, w, h => by
   simp only [mms] at h
   split at h
   · rename_i z hz
     unfold mm at hz
     split at hz
     · rename_i k a k' b
       simp at hz; subst hz
       obtain ⟨ih, il⟩ := mms_sound _ r s w h
       refine ⟨?_, ?_⟩
       · simp only [SV.concs, List.foldlM_cons, Sem.run_bind]
         cases m
         · simp only [SV.conc, Bool.false_eq_true, if_false, Builtin.min2, Sem.run_pure, Result.andThen_ok, cond_false] at ih ⊢
           exact ih
         · simp only [SV.conc, if_true, Builtin.max2, Sem.run_pure, Result.andThen_ok, cond_true] at ih ⊢
           exact ih
       · rcases il with rfl | il
         · right; simp [SV.ids]
         · exact .inr il
     · cases hz
   · cases h
theorem lenS_sound {t : TypeId} {x s : SV} (h : lenS P t x = some s) (ty : TypeId) (w : World) : (Builtin.len_ #[t] ty #[x.conc β]).run P w = .ok (s.conc β) w ∧ s.ids = [] := by
 unfold lenS at h
 split at h <;> simp at h
 all_goals
  subst h
  rename_i hu
  simp [Builtin.len_, run_underlying hu, SV.conc, goInt, SV.ids]
end
section
variable {P : Program} {β : Nat → Loc} {W0 : World}
theorem pure1_some {o : Option SV} {E : Eff} (h : pure1 o = some E) : ∃ s, o = some s ∧ E = { out := s } := by
 unfold pure1 at h; split at h
 · simp at h; exact ⟨_, rfl, h.symm⟩
 · cases h
theorem pure2_some {o : Option (Bool × SV)} {E : Eff} (h : pure2 o = some E) : ∃ b s, o = some (b, s) ∧ E = { need := b, out := s } := by
 unfold pure2 at h; split at h
 · simp at h; exact ⟨_, _, rfl, h.symm⟩
 · cases h
structure Good (W0 : World) (bl : Nat → Option Blk) (id : Nat) (E : Eff) (β : Nat → Loc) (w' : World) (β' : Nat → Loc) : Prop where
 bc : BC W0 (applyE bl id E) β' w'
 same : ∀ i, bl i ≠ none → β' i = β i
 live : Live (applyE bl id E) E.out
def Runs (P : Program) (W0 : World) (bl : Nat → Option Blk) (id : Nat) (E : Eff) (β : Nat → Loc) (w : World) (s : Sem Next) : Prop :=
 (∃ w' β', s.run P w = .ok (.value (E.out.conc β')) w' ∧ Good W0 bl id E β w' β') ∨
 (∃ w' β', s.run P w = .ok .skip w' ∧ E.out = .val undef ∧ Good W0 bl id E β w' β') ∨
 (∃ f args, s.run P w = .ok (.enter f args) w ∧ Calls P f args w fun e w' => ∃ β', e = .returned (E.out.conc β') ∧ Good W0 bl id E β w' β')
theorem Runs.next {bl : Nat → Option Blk} {id : Nat} {E : Eff} {w : World} {s : Sem Next} (h : Runs P W0 bl id E β w s) (o : Oper) (a : Act) (next : Act → World → Prop) (Q : Exit → Act → World → Prop)
 (hn : ∀ w' β', Good W0 bl id E β w' β' → next (a.put o.dst (E.out.conc β')) w') : o.upon P a next Q (s.run P w) := by
 rcases h with ⟨w', β', h, g⟩ | ⟨w', β', h, h2, g⟩ | ⟨f, args, h, hc⟩
 · rw [h]; exact hn w' β' g
 · rw [h]
   have := hn w' β' g
   rw [h2] at this
   exact this
 · rw [h]
   refine Calls.mono hc ?_
   rintro e w' ⟨β', rfl, g⟩
   exact hn w' β' g
theorem Runs.value {bl : Nat → Option Blk} {id : Nat} {E : Eff} {w : World} {s : Sem Value} (hbc : BC W0 bl β w) (h : s.run P w = .ok (E.out.conc β) w) (h1 : E.wr = none) (h2 : E.nw = none) (hl : Live bl E.out) :
 Runs P W0 bl id E β w (do pure (.value (← s))) := by
 refine .inl ⟨w, β, by simp [h], ?_, fun _ _ => rfl, ?_⟩
 · simp [applyE, h1, h2]; exact hbc
 · simp [applyE, h1, h2]; exact hl
theorem Runs.value' {bl : Nat → Option Blk} {id : Nat} {E : Eff} {w : World} {s : Sem Next} (hbc : BC W0 bl β w) (h : s.run P w = .ok (.value (E.out.conc β)) w) (h1 : E.wr = none) (h2 : E.nw = none) (hl : Live bl E.out) :
 Runs P W0 bl id E β w s := by
 refine .inl ⟨w, β, h, ?_, fun _ _ => rfl, ?_⟩
 · simp [applyE, h1, h2]; exact hbc
 · simp [applyE, h1, h2]; exact hl
theorem live_of_nil {bl : Nat → Option Blk} {s : SV} (h : s.ids = []) : Live bl s := fun i hi => by rw [h] at hi; cases hi
theorem Runs.var {bl : Nat → Option Blk} {id : Nat} {w : World} (hbc : BC W0 bl β w) (hid : bl id = none) {t : TypeId} {v : Value} {cs : List SV} (hv : v.cells = (SV.concs β cs).toArray) (hl : ∀ s ∈ cs, Live bl s) {E : Eff}
 (hE : E = { out := .ptr id 0 0, nw := some { n := 1, sz := cs.length, get := fun _ => cs, kd := .own } }) :
 Runs P W0 bl id E β w (do pure (.value (.pointer (some (← newVar t v))))) := by
 subst hE
 have k := hbc.alloc (id := id) hid (B := { n := 1, sz := cs.length, get := fun _ => cs, kd := .own }) rfl (fun _ _ => rfl) (fun e o s he hs => hl s (List.mem_of_getElem? hs)) cs (by simp) (fun e o s he hs => by
  have : e = 0 := by simp at he; exact he
  subst this
  simpa using hs) t
 refine .inl ⟨_, _, ?_, ⟨k, fun i hi => updL_ne (fun e => hi (e ▸ hid)), ?_⟩⟩
 · simp only [newVar, newRow, hv, Sem.run_bind, run_newObj, Result.andThen_ok, Sem.run_pure, World.alloc_eq, SV.conc, addr, updL_same]
   simp
 · intro i hi
   simp only [SV.ids, List.mem_singleton] at hi
   subst hi
   simp [applyE, upd_same]
end
section
variable {P : Program} {β : Nat → Loc} {W0 : World}
theorem opt_map_ev {β : Nat → Loc} {A : AS} {a : Act} (h : FR β A a) {G : List (Nat × Bool)} (hG : Knows a G) {lo : Option Operand} (hs : (lo.isSome == (lo.bind (ev A.tm G)).isSome) = true) :
 lo.map a.eval = (lo.bind (ev A.tm G)).map (SV.conc β) := by
 cases lo with
 | none => rfl
 | some x =>
   cases hx : ev A.tm G x with
   | none => simp [hx] at hs
   | some s => simp [hx, (ev_sound h hG hx).1]
theorem fieldAt_sound {t : TypeId} {i : Nat} {f : Field} (h : fieldAt P t i = some f) : ∃ fs, P.underlying t = some (.struct fs) ∧ fs[i]? = some f := by
 unfold fieldAt at h
 split at h
 · rename_i fs hu; exact ⟨fs, hu, by simpa using h⟩
 · cases h
theorem pick_put {G : List (Nat × Bool)} {a : Act} {t : Nat} {b : Bool} (hG : Knows a G) (h : a.tmps.getD t undef = .bool b) : Knows a ((t, b) :: G) := by
 intro p hp
 simp only [List.mem_cons] at hp
 rcases hp with rfl | hp
 · exact h
 · exact hG p hp
theorem placesS_eq : ∀ {fs : List Field} {pl : List (Nat × Nat)}, placesS P fs = some pl → fs.mapM (fun f => (P.info? f.type).map fun i => (f.offset, i.size)) = some pl
 | [], pl, h => by simp [placesS] at h; subst h; simp
 | f :: fs, pl, h => by
   simp only [placesS] at h
   split at h
   · rename_i s r h1 h2
     simp at h; subst h
     unfold szT at h1
     cases hi : P.info? f.type with
     | none => simp [hi] at h1
     | some i =>
       simp [hi] at h1; subst h1
       simp [List.mapM_cons, hi, placesS_eq h2]
   · cases h
theorem live_cells {bl : Nat → Option Blk} {v : SV} (hv : Live bl v) : ∀ s ∈ v.cells, Live bl s := by
 intro s hs
 cases v with
 | agg cs => exact fun i hi => hv i (by simp only [SV.ids]; exact SV.mem_idss.2 ⟨s, hs, hi⟩)
 | _ => simp [SV.cells] at hs; subst hs; exact hv
theorem replicate_get (z : List Value) (hz : z ≠ []) : ∀ (n i : Nat), i < n * z.length → (List.replicate n z).flatten[i]? = z[i % z.length]?
 | 0, i, h => by simp at h
 | n + 1, i, h => by
   have hl : 0 < z.length := List.length_pos_iff.2 hz
   rw [List.replicate_succ, List.flatten_cons]
   by_cases hi : i < z.length
   · rw [List.getElem?_append_left hi, Nat.mod_eq_of_lt hi]
   · have h' : i < n * z.length + z.length := by rw [Nat.succ_mul] at h; exact h
     rw [List.getElem?_append_right (by omega), replicate_get z hz n _ (by omega)]
     congr 1
     exact (Nat.mod_eq_sub_mod (by omega)).symm
theorem bytesS_len {get : Nat → List SV} : ∀ {n e : Nat} {r : List UInt8}, bytesS get e n = some r → r.length = n
 | 0, e, r, h => by simp [bytesS] at h; subst h; rfl
 | n + 1, e, r, h => by
   simp only [bytesS] at h
   split at h
   · split at h
     · rename_i r' hr
       simp at h; subst h
       simp [bytesS_len hr]
     · cases h
   · cases h
theorem bytesS_zs {get : Nat → List SV} : ∀ {n e : Nat} {r : List UInt8}, bytesS get e n = some r → ∃ zs : List Int, r = zs.map (fun z => UInt8.ofNat z.toNat) ∧ ∀ (j : Nat) (z : Int), zs[j]? = some z → get (e + j) = [.val (.int .u8 z)]
 | 0, e, r, h => by simp [bytesS] at h; subst h; exact ⟨[], rfl, fun j z hj => by simp at hj⟩
 | n + 1, e, r, h => by
   simp only [bytesS] at h
   split at h
   · rename_i z hz
     split at h
     · rename_i r' hr
       simp at h; subst h
       obtain ⟨zs, h1, h2⟩ := bytesS_zs hr
       refine ⟨z :: zs, by simp [h1], fun j y hj => ?_⟩
       cases j with
       | zero => simp at hj; subst hj; exact hz
       | succ j =>
         have := h2 j y (by simpa using hj)
         rw [← this]; congr 1; omega
     · cases h
   · cases h
theorem push_bytes : ∀ (zs : List Int) (s : ByteArray), zs.foldl (fun (r : ByteArray) (n : Int) => r.push (UInt8.ofNat n.toNat)) s = ⟨(s.data.toList ++ zs.map (fun z => UInt8.ofNat z.toNat)).toArray⟩
 | [], s => by simp
 | z :: zs, s => by
   rw [List.foldl_cons, push_bytes zs]
   congr 1
   simp [ByteArray.push]
theorem strsOf_get : ∀ {cs : List SV} {l : List ByteArray}, strsOf cs = some l → ∀ {i : Nat}, i < cs.length → cs[i]? = some (.val (.string (nthB l i)))
 | [], _, _, i, hi => by simp at hi
 | c :: cs, l, h, i, hi => by
   unfold strsOf at h
   split at h
   · rename_i heq; cases heq
   · rename_i s r heq
     obtain ⟨rfl, rfl⟩ := List.cons.inj heq
     split at h
     · rename_i l' hl'
       simp only [Option.some.injEq] at h; subst h
       cases i with
       | zero => rfl
       | succ i => simp only [List.getElem?_cons_succ, nthB]; exact strsOf_get hl' (by simpa using hi)
     · cases h
   · cases h
theorem intsOf_get {k : IntKind} : ∀ {cs : List SV} {l : List Int}, intsOf k cs = some l → ∀ {i : Nat}, i < cs.length → cs[i]? = some (.val (.int k (nthI l i)))
 | [], _, _, i, hi => by simp at hi
 | c :: cs, l, h, i, hi => by
   unfold intsOf at h
   split at h
   · rename_i heq; cases heq
   · rename_i k' z r heq
     obtain ⟨rfl, rfl⟩ := List.cons.inj heq
     cases hk : kEq k' k with
     | false => rw [hk] at h; cases h
     | true =>
       rw [hk] at h
       have hk' := kEq_eq hk
       subst hk'
       simp only [cond_true] at h
       split at h
       · rename_i l' hl'
         simp only [Option.some.injEq] at h; subst h
         cases i with
         | zero => rfl
         | succ i => simp only [List.getElem?_cons_succ, nthI]; exact intsOf_get hl' (by simpa using hi)
       · cases h
   · cases h
theorem nthS_part {el : TypeId} {cs : List SV} {i : Nat} {v : SV} (ha : aggT P el = some false) (hs : szT P el = some 1) (hi : i < cs.length) (h : nthS P el cs i 1 = some v) : partS P el cs (i * 1) = some v := by
 unfold nthS at h
 split at h
 · rename_i l hl
   simp only [Option.some.injEq] at h; subst h
   simp only [partS, ha, hs, Nat.mul_one]
   exact strsOf_get hl hi
 · split at h
   · rename_i l hl
     simp only [Option.some.injEq] at h; subst h
     simp only [partS, ha, hs, Nat.mul_one]
     exact intsOf_get hl hi
   · exact h
theorem rowS_eq {r : List SV} {n s e : Nat} (hl : r.length = n * s) (he : e < n) : rowS r s e = (r.drop (e * s)).take s := by
 unfold rowS
 cases hs : Nat.beq s 1 with
 | false => rfl
 | true =>
   have hs := Nat.eq_of_beq_eq_true hs
   subst hs
   have he' : e < r.length := by omega
   simp only [cond_true]
   have key : ∀ x : SV, r[e]? = some x → [x] = (r.drop (e * 1)).take 1 := by
    intro x hx
    rw [Nat.mul_one]
    rw [List.getElem?_eq_getElem he'] at hx
    rw [List.drop_eq_getElem_cons he']
    simp only [Option.some.injEq] at hx
    simp [hx]
   cases h1 : strsOf r with
   | some l => exact key _ (strsOf_get h1 he')
   | none =>
     cases h2 : intsOf .i64 r with
     | some l => exact key _ (intsOf_get h2 he')
     | none => rfl
theorem eff_sound {Γ : FuncId → Option Ctr} (hΓ : GamOK P W0 Γ) {A : AS} {a : Act} (h : FR β A a) {w : World} (hbc : BC W0 A.bl β w) {G : List (Nat × Bool)} (hG : Knows a G) {id : Nat} (hid : A.bl id = none)
 (o : Oper) {E : Eff} (he : eff P Γ A.tm A.bl G id o.op = some E) (hn : E.need = true) : Runs P W0 A.bl id E β w (execOp a.eval o) := by
 obtain ⟨dst, op, ty, pos, after, gd⟩ := o
 cases op with
 | move x =>
   simp only [eff] at he
   obtain ⟨s, hs, rfl⟩ := pure1_some he
   obtain ⟨e1, l1⟩ := ev_sound h hG hs
   exact Runs.value' hbc (by simp [execOp, e1]) rfl rfl l1
 | assign x =>
   simp only [eff] at he
   obtain ⟨s, hs, rfl⟩ := pure1_some he
   obtain ⟨e1, l1⟩ := ev_sound h hG hs
   exact Runs.value' hbc (by simp [execOp, e1]) rfl rfl l1
 | pick c x y =>
   simp only [eff] at he
   split at he
   · rename_i t
     split at he
     · rename_i b hb
       split at he
       · rename_i sx sy hx hy
         obtain ⟨s, hs, rfl⟩ := pure1_some he
         unfold mergeS at hs
         split at hs
         · rename_i p q
           simp at hs; subst hs
           obtain ⟨e1, _⟩ := ev_sound h hG hb
           have ht : a.tmps.getD t undef = .bool b := e1
           refine Runs.value' hbc ?_ rfl rfl (live_of_nil (by simp [SV.ids]))
           cases b
           · obtain ⟨e3, _⟩ := ev_sound h (pick_put hG ht) hy
             simp [execOp, e1, e3, SV.conc, asBool]
           · obtain ⟨e2, _⟩ := ev_sound h (pick_put hG ht) hx
             simp [execOp, e1, e2, SV.conc, asBool]
         · cases hs
       · cases he
     · cases he
   · cases he
 | alloc t =>
   simp only [eff] at he
   split at he
   · rename_i cs hz
     simp at he
     obtain ⟨v, hv, hc, hi⟩ := run_zeroS (β := β) w hz
     have k := Runs.var (P := P) hbc hid (t := t) hc (fun s hs => live_of_nil (hi s hs)) he.symm
     simp only [execOp]
     have e : ∀ (w' : World) r, Sem.run P (do pure (Next.value (Value.pointer (some (← newVar t v))))) w = r → Sem.run P (do pure (Next.value (← Instr.alloc t true (.tuple #[])))) w = r := by
      intro w' r hr
      rw [← hr]
      simp [Instr.alloc, hv]
     rcases k with ⟨w', β', h1, g⟩ | ⟨w', β', h1, h2, g⟩ | ⟨f, args, h1, g⟩
     · exact .inl ⟨w', β', e w' _ h1, g⟩
     · exact .inr (.inl ⟨w', β', e w' _ h1, h2, g⟩)
     · exact .inr (.inr ⟨f, args, e w _ h1, g⟩)
   · cases he
 | box t x =>
   simp only [eff] at he
   split at he
   · cases he
   · rename_i v hna hv
     simp at he
     obtain ⟨e1, l1⟩ := ev_sound h hG hv
     have hc := SV.cells_conc β v (fun cs hh => hna cs hh)
     have hl : ∀ s ∈ v.cells, Live A.bl s := by
      intro s hs
      cases v with
      | agg cs => exact fun i hi => l1 i (by simp only [SV.ids]; exact SV.mem_idss.2 ⟨s, hs, hi⟩)
      | _ => simp [SV.cells] at hs; subst hs; exact l1
     have k := Runs.var (P := P) hbc hid (t := t) hc hl he.symm
     simp only [execOp, Instr.box, e1]
     simpa using k
   · cases he
 | build t parts =>
   simp only [eff] at he
   split at he
   · rename_i cs ps hz hp
     obtain ⟨v, hv, hc, hi⟩ := run_zeroS (β := β) w hz
     obtain ⟨e1, l1⟩ := evParts_sound h hG hp
     have e2 : (parts.map fun (i, x) => (i, a.eval x)).toList = ps.map (fun p => (p.1, p.2.conc β)) := by simpa using e1
     have hcs : ∀ s ∈ cs, Live A.bl s := fun s hs => live_of_nil (hi s hs)
     have hna : ∀ p ∈ ps, ∀ c, p.2 ≠ .val (.agg c) := fun p hp => (l1 p hp).2
     have hfin : ∀ r : List SV, (∀ s ∈ r, s ∈ cs ∨ ∃ p ∈ ps, s ∈ p.2.cells) → Live A.bl (.agg r) := by
      intro r hr i hi
      simp only [SV.ids] at hi
      obtain ⟨s, hs, hi⟩ := SV.mem_idss.1 hi
      rcases hr s hs with h1 | ⟨p, hp, h1⟩
      · exact hcs s h1 i hi
      · exact live_cells (l1 p hp).1 s h1 i hi
     split at he
     · rename_i fs hu
       split at he
       · rename_i pl hpl
         split at he
         · rename_i r hr
           simp at he; subst he
           obtain ⟨k1, k2, _⟩ := fill_sound (β := β) ps cs r hr hna
           refine Runs.value hbc ?_ rfl rfl (hfin r k2)
           simp only [Instr.build, Sem.run_bind, hv, Result.andThen_ok, run_underlying hu, Array.mapM_eq_mapM_toList, e2, hc, SV.conc]
           have hpp := run_places (P := P) w fs.toList pl (placesS_eq hpl)
           simp only [Sem.run_map, Sem.run_bind, Sem.run_pure] at hpp ⊢
           simp [hpp, k1]
         · cases he
       · cases he
     · rename_i n e hu
       split at he
       · rename_i sz hsz
         split at he
         · rename_i r hr
           simp at he; subst he
           obtain ⟨k1, k2, _⟩ := fill_sound (β := β) ps cs r hr hna
           refine Runs.value hbc ?_ rfl rfl (hfin r k2)
           simp only [Instr.build, Sem.run_bind, hv, Result.andThen_ok, run_underlying hu, run_szT w hsz, hc, e2, k1, Sem.run_pure, SV.conc]
         · cases he
       · cases he
     · cases he
   · cases he
 | buildSlice t n parts =>
   simp only [eff] at he
   split at he
   · rename_i e ps hu hp
     obtain ⟨e1, l1⟩ := evParts_sound h hG hp
     have e2 : (parts.map fun (i, x) => (i, a.eval x)).toList = ps.map (fun p => (p.1, p.2.conc β)) := by simpa using e1
     have hna : ∀ p ∈ ps, ∀ c, p.2 ≠ .val (.agg c) := fun p hp => (l1 p hp).2
     split at he
     · rename_i s z hsz hz
       obtain ⟨v, hv, hc, hi⟩ := run_zeroS (β := β) w hz
       cases hb : (Nat.beq z.length s && Nat.ble (n * s) 16777216 && Nat.ble 1 s) with
       | false => rw [hb] at he; simp at he
       | true =>
         rw [hb] at he
         simp only [cond_true] at he
         simp only [Bool.and_eq_true] at hb
         have b1 := Nat.eq_of_beq_eq_true hb.1.1
         have b2 := Nat.le_of_ble_eq_true hb.1.2
         have b3 := Nat.le_of_ble_eq_true hb.2
         split at he
         · rename_i r hr
           simp at he; subst he
           obtain ⟨k1, k2, k3⟩ := fill_sound (β := β) ps _ r hr hna
           have hlen : r.length = n * s := by rw [k3]; simp [b1]
           have hlive : ∀ x ∈ r, Live A.bl x := by
            intro x hx
            rcases k2 x hx with h1 | ⟨p, hp, h1⟩
            · simp only [List.mem_flatten, List.mem_replicate] at h1
              obtain ⟨l, ⟨_, rfl⟩, hx⟩ := h1
              exact live_of_nil (hi x hx)
            · exact live_cells (l1 p hp).1 x h1
           have kk := hbc.alloc (id := id) hid (B := { n := n, sz := s, get := rowS r s, kd := .own }) rfl
            (fun e he => by
              have : (e + 1) * s ≤ n * s := Nat.mul_le_mul_right _ he
              rw [Nat.add_mul] at this
              simp only []
              rw [rowS_eq hlen he]
              simp [hlen]; omega)
            (fun e o x he hx => by
              simp only [] at hx
              rw [rowS_eq hlen he] at hx
              exact hlive x (List.mem_of_mem_drop (List.mem_of_mem_take (List.mem_of_getElem? hx)))) r hlen
            (fun e o x he hx => by
              have ho : o < s := by
               simp only [] at hx
               rw [rowS_eq hlen he] at hx
               rcases Nat.lt_or_ge o s with h' | h'
               · exact h'
               · rw [List.getElem?_eq_none (by simp; omega)] at hx; cases hx
              simp only [] at hx
              rw [rowS_eq hlen he] at hx
              rw [List.getElem?_take_of_lt ho, List.getElem?_drop] at hx
              exact hx) e
           refine .inl ⟨_, _, ?_, ⟨kk, fun i hi => updL_ne (fun e => hi (e ▸ hid)), ?_⟩⟩
           · have hz0 : (if n * s = 0 then (#[] : Array Value) else (SV.concs β z).toArray) = if n * s = 0 then #[] else (SV.concs β z).toArray := rfl
             have hzc : (Array.range (n * s)).map (fun i => (SV.concs β z).toArray[i % (SV.concs β z).toArray.size]!) = (SV.concs β (List.replicate n z).flatten).toArray := by
              have hzl : (SV.concs β z).length = s := by rw [SV.concs_eq, List.length_map, b1]
              apply Array.ext_getElem?
              intro i
              by_cases hi : i < n * s
              · have g := replicate_get (SV.concs β z) (by intro e; rw [e] at hzl; simp at hzl; omega) n i (by rw [hzl]; exact hi)
                have hm : i % s < s := Nat.mod_lt _ (by omega)
                rw [hzl] at g
                have g2 : SV.concs β (List.replicate n z).flatten = (List.replicate n (SV.concs β z)).flatten := by
                 simp [SV.concs_eq, List.map_flatten]
                rw [g2]
                simp only [List.getElem?_toArray, g, List.size_toArray, hzl]
                rw [Array.getElem?_map, Array.getElem?_range]
                simp [hi]
                rw [List.getElem?_eq_getElem (by omega)]
                rfl
              · rw [Array.getElem?_eq_none (by simp; omega), Array.getElem?_eq_none (by simp [SV.concs_eq, b1]; omega)]
             simp only [execOp, Instr.buildSlice, Sem.run_bind, run_underlying hu, Result.andThen_ok, run_szT w hsz, Sem.run_ite, e2]
             rw [if_neg (by omega)]
             by_cases h0 : n * s = 0
             · have hn0 : n = 0 := by rcases Nat.mul_eq_zero.1 h0 with h | h <;> omega
               subst hn0
               simp only [Nat.zero_mul, if_true, Sem.run_pure, Result.andThen_ok, Array.range_zero', Array.map_empty] at hzc k1 ⊢
               simp only [List.replicate_zero, List.flatten_nil, SV.concs] at k1
               simp only [k1]
               simp only [newRow, Sem.run_bind, run_newObj, Result.andThen_ok, Sem.run_pure, World.alloc_eq, SV.conc, addr, updL_same]
               simp [Bool.cond_self]
             · rw [if_neg h0]
               simp only [Sem.run_bind, hv, Result.andThen_ok, Sem.run_pure, hc, hzc, k1]
               simp only [newRow, Sem.run_bind, run_newObj, Result.andThen_ok, Sem.run_pure, World.alloc_eq, SV.conc, addr, updL_same]
               simp [Bool.cond_self]
           · intro i hi
             simp only [SV.ids, List.mem_singleton] at hi
             subst hi
             simp [applyE, upd_same]
         · cases he
     · cases he
   · cases he
 | load t x =>
   simp only [eff] at he
   split at he
   · rename_i s hs
     obtain ⟨e1, l1⟩ := ev_sound h hG hs
     obtain ⟨ad, h1, h2, h3, h4, h5⟩ := loadS_sound (P := P) hbc he hn
     refine Runs.value hbc ?_ h4 h5 h3
     simp only [Instr.loadAt, e1, h1, Instr.sureAddr, Sem.run_bind, Sem.run_pure, Result.andThen_ok, h2]
   · cases he
 | store t x y =>
   simp only [eff] at he
   split at he
   · rename_i s v hs hv
     obtain ⟨e1, l1⟩ := ev_sound h hG hs
     obtain ⟨e2, l2⟩ := ev_sound h hG hv
     obtain ⟨ad, i, e, off, B, w', h1, h2, h3, h4, h5, h6, h7⟩ := storeS_sound (P := P) hbc he hn l2
     refine .inr (.inl ⟨w', β, ?_, h6, ⟨?_, fun _ _ => rfl, ?_⟩⟩)
     · simp only [execOp, Instr.storeAt, e1, h1, e2, Instr.sureAddr, Sem.run_bind, Sem.run_pure, Result.andThen_ok, h2]
     · simp only [applyE, h4, h5, h3]; exact h7
     · rw [h6]; exact live_of_nil (by simp [SV.ids])
   · cases he
 | nilCheck x =>
   simp only [eff] at he
   split at he
   · rename_i i e off hs
     simp at he; subst he
     obtain ⟨e1, l1⟩ := ev_sound h hG hs
     exact Runs.value' hbc (by simp [execOp, e1, SV.conc]) rfl rfl l1
   · rename_i f as cs hs
     simp at he; subst he
     obtain ⟨e1, l1⟩ := ev_sound h hG hs
     exact Runs.value' hbc (by simp [execOp, e1, SV.conc]) rfl rfl l1
   · cases he
 | binOp bop t x y ty2 =>
   simp only [eff] at he
   split at he
   · rename_i s v hs hv
     obtain ⟨n, r, hr, rfl⟩ := pure2_some he
     obtain ⟨e1, l1⟩ := ev_sound h hG hs
     obtain ⟨e2, l2⟩ := ev_sound h hG hv
     have k := binS_sound (P := P) (β := β) hr hn x y w
     refine Runs.value hbc ?_ rfl rfl ?_
     · rw [e1, e2]; exact k
     · refine live_of_nil ?_
       unfold binS at hr
       split at hr
       · unfold binI at hr
         split at hr
         · simp at hr; rw [← hr.2]; simp [SV.ids]
         · simp at hr; rw [← hr.2]; simp [SV.ids]
         · rename_i k1 a1 k2 b1 _ _ _
           cases hk : kEq k1 k2 with
           | false => simp [hk] at hr
           | true =>
             simp only [hk, cond_true] at hr
             split at hr <;> simp only [Option.some.injEq, Prod.mk.injEq, reduceCtorEq] at hr <;> rw [← hr.2] <;> simp [SV.ids]
       · unfold binStr at hr
         split at hr <;> simp only [Option.some.injEq, Prod.mk.injEq, reduceCtorEq] at hr <;> rw [← hr.2] <;> simp [SV.ids]
       · unfold eqOp at hr
         split at hr <;> simp only [Option.some.injEq, Prod.mk.injEq, reduceCtorEq] at hr <;> rw [← hr.2] <;> simp [SV.ids]
       · cases hg : P.eqGuardType P.depth t with
         | true => simp [hg] at hr
         | false =>
           simp only [hg, cond_false] at hr
           unfold eqOp at hr
           split at hr <;> simp only [Option.some.injEq, Prod.mk.injEq, reduceCtorEq] at hr <;> rw [← hr.2] <;> simp [SV.ids]
       · cases hr
   · cases he
 | unOp uop t x =>
   simp only [eff] at he
   split at he
   · rename_i s hs
     obtain ⟨n, r, hr, rfl⟩ := pure2_some he
     obtain ⟨e1, l1⟩ := ev_sound h hG hs
     refine Runs.value hbc (by rw [e1]; exact unS_sound hr hn w) rfl rfl (live_of_nil ?_)
     unfold unS at hr
     split at hr <;> simp only [Option.some.injEq, Prod.mk.injEq, reduceCtorEq] at hr <;> rw [← hr.2] <;> simp [SV.ids]
   · cases he
 | convert src dst2 x =>
   simp only [eff] at he
   split at he
   · rename_i k n hs
     obtain ⟨e1, l1⟩ := ev_sound h hG hs
     split at he
     · rename_i d k' hu hd
       simp at he; subst he
       refine Runs.value hbc ?_ rfl rfl (live_of_nil (by simp [SV.ids]))
       simp only [e1, SV.conc, convert, Sem.run_bind, run_underlying hu, run_underlying hd, Result.andThen_ok, Conv.intToInt]
       simp [wrap_inR hn]
     · cases he
   · rename_i str hs
     obtain ⟨e1, l1⟩ := ev_sound h hG hs
     split at he
     · rename_i d hu hd
       simp at he; subst he
       refine Runs.value hbc ?_ rfl rfl (live_of_nil (by simp [SV.ids]))
       simp only [e1, SV.conc, convert, Sem.run_bind, run_underlying hu, run_underlying hd, Result.andThen_ok]
       simp
     · cases he
   · rename_i i e n hs
     obtain ⟨e1, l1⟩ := ev_sound h hG hs
     split at he
     · rename_i el B hu hd hB
       split at he
       · rename_i hel hk
         split at he
         · rename_i r hr
           cases hb : (Nat.beq B.sz 1 && B.nn && Nat.beq e 0) with
           | false => rw [hb] at he; simp at he
           | true =>
             rw [hb] at he
             simp only [cond_true, Option.some.injEq] at he; subst he
             simp only [Bool.and_eq_true] at hb
             have hsz1 := Nat.eq_of_beq_eq_true hb.1.1
             have hle : e + n ≤ B.n := of_decide_eq_true hn
             have q := hbc.blk i B hB (by rw [hk]; simp)
             have he0 := Nat.eq_of_beq_eq_true hb.2
             have hsc := conc_slc (β := β) (id := i) (e := e) (len := n) (q.nn hb.1.2) (.inr he0)
             have hl := bytesS_len hr
             obtain ⟨zs, hz1, hz2⟩ := bytesS_zs hr
             have hl2 : zs.length = n := by rw [hz1] at hl; simpa using hl
             have hc := run_loadCells_list (P := P) w (addr β i e 0) (zs.map (Value.int .u8)) (fun j v hv => by
              rw [addr_add]
              rw [List.getElem?_map] at hv
              cases hj : zs[j]? with
              | none => simp [hj] at hv
              | some z =>
                simp [hj] at hv; subst hv
                have hjn : j < n := by
                 rcases Nat.lt_or_ge j n with h' | h'
                 · exact h'
                 · rw [List.getElem?_eq_none (by omega)] at hj; cases hj
                have hg := hz2 j z hj
                have := q.val (e + j) (by omega) 0 (.val (.int .u8 z)) (by rw [hg]; rfl)
                simp only [addr, q.sz, hsz1, SV.conc] at this ⊢
                rw [show (β i).off + e * 1 + (0 + j) = (β i).off + (e + j) * 1 + 0 by omega]
                exact this)
             rw [List.length_map, hl2] at hc
             have hbs := run_bytesToString (P := P) w (addr β i e 0) n ((β i).cap - e) zs hc
             refine Runs.value hbc ?_ rfl rfl (live_of_nil (by simp [SV.ids]))
             rw [hsc] at e1
             simp only [e1, convert, Sem.run_bind, run_underlying hu, run_underlying hd, Result.andThen_ok, run_underlying hel, hbs, SV.conc]
             rw [push_bytes, hz1]
             rfl
         · cases he
       · cases he
     · cases he
   · cases he
 | makeFunc f first caps =>
   simp only [eff] at he
   split at he
   · rename_i as cs h1 h2
     simp at he; subst he
     obtain ⟨e1, l1⟩ := evs_sound h hG h1
     obtain ⟨e2, l2⟩ := evs_sound h hG h2
     have e3 : first.map a.eval = (SV.concs β as).toArray := by apply Array.ext'; simp [e1]
     have e4 : caps.map a.eval = (SV.concs β cs).toArray := by apply Array.ext'; simp [e2]
     refine Runs.value hbc (by simp [Instr.makeFunc, e3, e4, SV.conc]) rfl rfl ?_
     intro i hi
     simp only [SV.ids, List.mem_append] at hi
     rcases hi with hi | hi
     · obtain ⟨s, hs, hi⟩ := SV.mem_idss.1 hi; exact l1 s hs i hi
     · obtain ⟨s, hs, hi⟩ := SV.mem_idss.1 hi; exact l2 s hs i hi
   · cases he
 | slice t x lo hi mx =>
   cases mx with
   | some m => simp [eff] at he
   | none =>
     simp only [eff] at he
     split at he
     · rename_i str hs hu
       obtain ⟨e1, l1⟩ := ev_sound h hG hs
       split at he
       · rename_i b l r hb
         cases hc : ((lo.isSome == (lo.bind (ev A.tm G)).isSome) && (hi.isSome == (hi.bind (ev A.tm G)).isSome)) with
         | false => rw [hc] at he; simp at he
         | true =>
           rw [hc] at he
           simp only [cond_true, Option.some.injEq] at he; subst he
           simp only [Bool.and_eq_true] at hc
           have e2 := opt_map_ev h hG hc.1
           have e3 := opt_map_ev h hG hc.2
           obtain ⟨k, _, _⟩ := ends_sound (P := P) (β := β) hb hn false w
           refine Runs.value hbc ?_ rfl rfl (live_of_nil (by simp [SV.ids]))
           simp only [Instr.sliceAt, Instr.slice, e1, SV.conc, Sem.run_bind, run_underlying hu, Result.andThen_ok, Option.map_none, Option.isSome_none, Bool.false_eq_true, if_false, e2, e3, k, Sem.run_pure]
       · cases he
     · rename_i id' e n el hs hu
       obtain ⟨e1, l1⟩ := ev_sound h hG hs
       split at he
       · rename_i b l r B s hb hB hsz
         have key : B.kd ≠ .gone → (bif (lo.isSome == (lo.bind (ev A.tm G)).isSome) && (hi.isSome == (hi.bind (ev A.tm G)).isSome) && Nat.beq s B.sz then
          some ({ need := b && decide (e + n ≤ B.n) && (bif Nat.beq e 0 || Nat.beq l 0 then true else decide (e + l < B.n)), out := .slc id' (e + l) (r - l), rd := [id'] } : Eff) else none) = some E → Runs P W0 A.bl id E β w (execOp a.eval ⟨dst, .slice t x lo hi none, ty, pos, after, gd⟩) := by
          intro hg he
          cases hc : ((lo.isSome == (lo.bind (ev A.tm G)).isSome) && (hi.isSome == (hi.bind (ev A.tm G)).isSome) && Nat.beq s B.sz) with
          | false => rw [hc] at he; simp at he
          | true =>
            rw [hc] at he
            simp only [cond_true, Option.some.injEq] at he; subst he
            simp only [Bool.and_eq_true, decide_eq_true_eq] at hc hn
            obtain ⟨⟨hn1, hn2⟩, hn3⟩ := hn
            have hse := Nat.eq_of_beq_eq_true hc.2
            have e2 := opt_map_ev h hG hc.1.1
            have e3 := opt_map_ev h hG hc.1.2
            have q := hbc.blk id' B hB hg
            have hcap := q.le
            obtain ⟨k, k1, k2⟩ := ends_sound2 (P := P) (β := β) (cap := (β id').cap - e) hb hn1 (by omega) true w
            refine Runs.value hbc ?_ rfl rfl l1
            simp only [Instr.sliceAt, Instr.slice, e1, SV.conc, Sem.run_bind, run_underlying hu, Result.andThen_ok, Option.map_none, e2, e3, k, Sem.run_pure, run_szT w hsz]
            rw [show (β id').cap - e - l = (β id').cap - (e + l) by omega]
            congr 2
            cases hnil : (β id').nil with
            | true =>
              simp only [cond_true, Option.map_none, ite_self]
            | false =>
              simp only [cond_false, Option.map_some]
              simp only [nbeq]
              by_cases hml : (β id').cap - e = l
              · rw [if_pos hml]
                congr 2
                by_cases he0 : e = 0
                · subst he0
                  have : (β id').cap = l := by omega
                  simp [this]
                · by_cases hl0 : l = 0
                  · subst hl0; simp
                  · exfalso
                    rw [nbeq, nbeq] at hn3
                    simp [he0, hl0] at hn3
                    omega
              · rw [if_neg hml]
                have h3 : (β id').cap ≠ e + l := by omega
                congr 1
                by_cases hce : (β id').cap = e
                · exfalso; omega
                · simp only [hce, h3, decide_false, cond_false, addr, Addr.add]
                  split
                  · rename_i hz
                    rw [q.sz] at *
                    rw [hse] at hz
                    simp only [Nat.add_mul]
                    congr 1
                    omega
                  · congr 1
                    rw [q.sz, hse, Nat.add_mul]; omega
         split at he
         · cases he
         · rename_i hk
           exact key (fun e => hk e) he
       · cases he
     · cases he
 | fieldAddr t x i =>
   simp only [eff] at he
   split at he
   · rename_i id' e off f hs hf
     obtain ⟨e1, l1⟩ := ev_sound h hG hs
     obtain ⟨fs, hu, hf'⟩ := fieldAt_sound hf
     split at he
     · rename_i n hsz
       simp at he; subst he
       refine Runs.value hbc ?_ rfl rfl l1
       simp only [Instr.fieldAt, e1, SV.conc, Sem.run_bind, run_underlying hu, Result.andThen_ok, hf', Instr.sureAddr, Sem.run_pure, fieldPlace, run_szT w hsz, Sem.run_ite]
       rw [if_neg (by omega)]
       simp [addr_add]
     · cases he
   · cases he
 | field t x i =>
   simp only [eff] at he
   split at he
   · rename_i cs f hs hf
     obtain ⟨e1, l1⟩ := ev_sound h hG hs
     obtain ⟨fs, hu, hf'⟩ := fieldAt_sound hf
     obtain ⟨s, hp, rfl⟩ := pure1_some he
     obtain ⟨k1, k2⟩ := run_partS (β := β) w hp
     refine Runs.value hbc ?_ rfl rfl ?_
     · simp only [Instr.field, e1, SV.conc, Sem.run_bind, run_underlying hu, Result.andThen_ok, hf', asAgg, Sem.run_pure, k1]
     · intro j hj; exact l1 j (by simp only [SV.ids]; exact k2 j hj)
   · cases he
 | indexAddr t x i =>
   simp only [eff] at he
   split at he
   · rename_i id' e off k ix hs hi
     obtain ⟨e1, l1⟩ := ev_sound h hG hs
     obtain ⟨e2, l2⟩ := ev_sound h hG hi
     split at he
     · rename_i n el hu
       split at he
       · rename_i s hsz
         simp at he; subst he
         simp at hn
         refine Runs.value hbc ?_ rfl rfl l1
         simp only [Instr.indexAt, e1, e2, SV.conc, asIntOf, Sem.run_bind, Sem.run_pure, Result.andThen_ok, run_underlying hu, Instr.sureAddr, hn, and_self, if_true, run_szT w hsz, addr_add]
       · cases he
     · cases he
   · rename_i id' e n k ix hs hi
     obtain ⟨e1, l1⟩ := ev_sound h hG hs
     obtain ⟨e2, l2⟩ := ev_sound h hG hi
     split at he
     · rename_i el B hu hB
       split at he
       · cases he
       · rename_i s hsz hng
         cases hb : Nat.beq s B.sz with
         | false => rw [hb] at he; simp at he
         | true =>
           rw [hb] at he
           simp only [cond_true, Option.some.injEq] at he; subst he
           have hse := Nat.eq_of_beq_eq_true hb
           have q := hbc.blk id' B hB hng
           have hnl : (0 ≤ ix ∧ ix < n) ∧ (β id').nil = false ∧ ((β id').cap ≠ e ∨ e = 0) := by
            cases hnn : (B.nn && Nat.beq e 0) with
            | true =>
              simp only [hnn, cond_true, Bool.and_eq_true, decide_eq_true_eq] at hn
              simp only [Bool.and_eq_true] at hnn
              exact ⟨hn, q.nn hnn.1, .inr (Nat.eq_of_beq_eq_true hnn.2)⟩
            | false =>
              simp only [hnn, cond_false, Bool.and_eq_true, decide_eq_true_eq] at hn
              have := q.le
              exact ⟨hn.1, q.not_nil hn.2, .inl (by omega)⟩
           obtain ⟨hn, hnil, hce⟩ := hnl
           refine Runs.value hbc ?_ rfl rfl l1
           rw [conc_slc hnil hce] at e1
           simp only [Instr.indexAt, e1, e2, SV.conc, asIntOf, Sem.run_bind, Sem.run_pure, Result.andThen_ok, run_underlying hu, hn, and_self, if_true, run_szT w hsz, addr_add]
           have hadr : addr β id' e (0 + ix.toNat * s) = addr β id' (e + ix.toNat) 0 := by
            simp only [addr, q.sz, hse, Nat.add_mul, Nat.zero_add, Nat.add_zero, Nat.add_assoc]
           rw [hadr]
       · cases he
     · cases he
   · cases he
 | index t x i =>
   simp only [eff] at he
   split at he
   · rename_i cs k ix hs hi
     obtain ⟨e1, l1⟩ := ev_sound h hG hs
     obtain ⟨e2, l2⟩ := ev_sound h hG hi
     split at he
     · rename_i n el hu
       split at he
       · rename_i hsz
         split at he
         · rename_i hag
           cases hcl : Nat.beq cs.length n with
           | false => rw [hcl] at he; simp at he
           | true =>
             rw [hcl] at he
             simp only [cond_true] at he
             split at he
             · rename_i v hv
               simp at he; subst he
               simp at hn
               have hlen := Nat.eq_of_beq_eq_true hcl
               have hv' := nthS_part (P := P) (el := el) (cs := cs) (i := ix.toNat) hag hsz (by omega) hv
               obtain ⟨k1, k2⟩ := run_partS (β := β) w hv'
               refine Runs.value hbc ?_ rfl rfl (fun j hj => l1 j (by simp only [SV.ids]; exact k2 j hj))
               simp only [Instr.index, e1, e2, SV.conc, asIntOf, Sem.run_bind, Sem.run_pure, Result.andThen_ok, run_underlying hu, hn, and_self, if_true, run_szT w hsz, k1]
             · cases he
         · cases he
       · rename_i s hsz
         split at he
         · rename_i v hv
           simp at he; subst he
           simp at hn
           obtain ⟨k1, k2⟩ := run_partS (β := β) w hv
           refine Runs.value hbc ?_ rfl rfl (fun j hj => l1 j (by simp only [SV.ids]; exact k2 j hj))
           simp only [Instr.index, e1, e2, SV.conc, asIntOf, Sem.run_bind, Sem.run_pure, Result.andThen_ok, run_underlying hu, hn, and_self, if_true, run_szT w hsz, k1]
         · cases he
       · cases he
     · cases he
   · rename_i str k ix hs hi
     obtain ⟨e1, l1⟩ := ev_sound h hG hs
     obtain ⟨e2, l2⟩ := ev_sound h hG hi
     split at he
     · rename_i hu
       simp at he; subst he
       simp at hn
       have hb := byteI_sound hn.1 hn.2
       refine Runs.value hbc ?_ rfl rfl (live_of_nil (by simp [SV.ids]))
       cases hc : (if 0 ≤ ix then str[ix.toNat]? else none) with
       | none => rw [hc] at hb; simp at hb
       | some b =>
         rw [hc] at hb
         simp at hb
         simp only [Instr.index, e1, e2, SV.conc, asIntOf, Sem.run_bind, Sem.run_pure, Result.andThen_ok, run_underlying hu, hc, hb]
     · cases he
   · cases he
 | extract x i =>
   simp only [eff] at he
   split at he
   · rename_i vs hs
     obtain ⟨e1, l1⟩ := ev_sound h hG hs
     obtain ⟨s, hp, rfl⟩ := pure1_some he
     refine Runs.value hbc ?_ rfl rfl ?_
     · have : (SV.concs β vs).toArray[i]? = some (s.conc β) := by simp [SV.concs_eq, hp]
       simp [Instr.extract, e1, SV.conc, this]
     · intro j hj; exact l1 j (by simp only [SV.ids]; exact SV.mem_idss.2 ⟨s, List.mem_of_getElem? hp, hj⟩)
   · cases he
 | call c =>
   simp only [eff] at he
   have key : ∀ f args, target A.tm G c = some (f, args) → (match Γ f with
    | some k => pure2 (k args)
    | none => none) = some E → Runs P W0 A.bl id E β w (execOp a.eval ⟨dst, .call c, ty, pos, after, gd⟩) := by
    intro f args ht he
    split at he
    · rename_i k hk
      obtain ⟨n, s, hs, rfl⟩ := pure2_some he
      obtain ⟨r1, l1⟩ := target_sound h hG ht (hΓ.call f k hk) ty w
      obtain ⟨c1, c2⟩ := hΓ.ctr f k hk β w args n s hbc.below hs hn
      refine .inr (.inr ⟨f, _, r1, ?_⟩)
      refine Calls.mono c2 ?_
      rintro e w' ⟨rfl, h1⟩
      exact ⟨β, rfl, ⟨by simp only [applyE]; exact hbc.step h1, fun _ _ => rfl, live_of_nil c1⟩⟩
    · cases he
   split at he
   · rename_i b hcal
     split at he
     · rename_i args has
       obtain ⟨e1, l1⟩ := evs_sound h hG has
       have e3 : c.args.map a.eval = (SV.concs β args).toArray := by apply Array.ext'; simp [e1]
       unfold callB at he
       split at he
       · split at he
         · rename_i t x ht
           obtain ⟨s, hs, rfl⟩ := pure1_some he
           obtain ⟨k1, k2⟩ := lenS_sound (β := β) hs ty w
           refine Runs.value' hbc ?_ rfl rfl (live_of_nil k2)
           have k3 : (Builtin.len_ c.argTypes ty (SV.concs β [x]).toArray).run P w = .ok (s.conc β) w := by
            rw [← k1]
            simp only [Builtin.len_, ht, SV.concs]
            simp
           simp only [execOp, resolve, hcal, Sem.run_bind, Sem.run_pure, Result.andThen_ok, invoke, builtin, e3, k3]
         · cases he
       · split at he
         · rename_i x r
           obtain ⟨s, hs, rfl⟩ := pure1_some he
           obtain ⟨k1, k2⟩ := mms_sound (P := P) (β := β) x r s w hs
           refine Runs.value' hbc ?_ rfl rfl (by rcases k2 with rfl | k2; exact l1 _ (by simp); exact live_of_nil k2)
           simp only [execOp, resolve, hcal, Sem.run_bind, Sem.run_pure, Result.andThen_ok, invoke, builtin, e3, Builtin.max_, SV.concs] at k1 ⊢
           simp only [if_true] at k1
           simp [k1]
         · cases he
       · split at he
         · rename_i x r
           obtain ⟨s, hs, rfl⟩ := pure1_some he
           obtain ⟨k1, k2⟩ := mms_sound (P := P) (β := β) x r s w hs
           refine Runs.value' hbc ?_ rfl rfl (by rcases k2 with rfl | k2; exact l1 _ (by simp); exact live_of_nil k2)
           simp only [execOp, resolve, hcal, Sem.run_bind, Sem.run_pure, Result.andThen_ok, invoke, builtin, e3, Builtin.min_, SV.concs] at k1 ⊢
           simp only [Bool.false_eq_true, if_false] at k1
           simp [k1]
         · cases he
       · cases he
     · cases he
   · split at he
     · rename_i f args ht
       exact key f args ht he
     · cases he
 | _ => simp [eff] at he
end
section
variable {P : Program} {W0 : World}
structure Tr (bl : Nat → Option Blk) (nx : Nat) (W : List Nat) (β : Nat → Loc) (bl' : Nat → Option Blk) (β' : Nat → Loc) : Prop where
 keep : ∀ i B, bl i = some B → ∃ B', bl' i = some B' ∧ B'.n = B.n ∧ (B'.sz = B.sz ∧ B'.nn = B.nn) ∧ (B'.kd = B.kd ∨ B'.kd = .gone) ∧ (i ∉ W → B' = B)
 same : ∀ i, bl i ≠ none → β' i = β i
 new : ∀ i, i < nx → bl i = none → bl' i = none
theorem Tr.refl (bl : Nat → Option Blk) (nx : Nat) (W : List Nat) (β : Nat → Loc) : Tr bl nx W β bl β := ⟨fun i B h => ⟨B, h, rfl, ⟨rfl, rfl⟩, .inl rfl, fun _ => rfl⟩, fun _ _ => rfl, fun _ _ h => h⟩
theorem Tr.dom {bl bl' : Nat → Option Blk} {nx : Nat} {W : List Nat} {β β' : Nat → Loc} (h : Tr bl nx W β bl' β') {i : Nat} (hi : bl i ≠ none) : bl' i ≠ none := by
 cases hb : bl i with
 | none => exact absurd hb hi
 | some B => obtain ⟨B', h1, _⟩ := h.keep i B hb; rw [h1]; simp
theorem Tr.trans {b0 b1 b2 : Nat → Option Blk} {nx nx' : Nat} {W V U : List Nat} {β0 β1 β2 : Nat → Loc} (h : Tr b0 nx W β0 b1 β1) (k : Tr b1 nx' V β1 b2 β2) (hn : nx ≤ nx') (hW : ∀ i ∈ W, i ∈ U) (hV : ∀ i ∈ V, i ∈ U) : Tr b0 nx U β0 b2 β2 := by
 refine ⟨fun i B hB => ?_, fun i hi => (k.same i (h.dom hi)).trans (h.same i hi), fun i hi h0 => k.new i (by omega) (h.new i hi h0)⟩
 obtain ⟨B1, h1, a1, a2, a3, a4⟩ := h.keep i B hB
 obtain ⟨B2, h2, c1, c2, c3, c4⟩ := k.keep i B1 h1
 exact ⟨B2, h2, c1.trans a1, ⟨c2.1.trans a2.1, c2.2.trans a2.2⟩, c3.elim (fun c3 => by rw [c3]; exact a3) .inr, fun hi => (c4 fun hv => hi (hV i hv)).trans (a4 fun hw => hi (hW i hw))⟩
theorem Tr.mono {b0 b1 : Nat → Option Blk} {nx : Nat} {W U : List Nat} {β0 β1 : Nat → Loc} (h : Tr b0 nx W β0 b1 β1) (hW : ∀ i ∈ W, i ∈ U) : Tr b0 nx U β0 b1 β1 :=
 ⟨fun i B hB => by
   obtain ⟨B1, h1, a1, a2, a3, a4⟩ := h.keep i B hB
   exact ⟨B1, h1, a1, a2, a3, fun hi => a4 fun hw => hi (hW i hw)⟩, h.same, h.new⟩
theorem Live.tr {bl bl' : Nat → Option Blk} {nx : Nat} {W : List Nat} {β β' : Nat → Loc} (h : Tr bl nx W β bl' β') {s : SV} (hs : Live bl s) : Live bl' s ∧ s.conc β' = s.conc β :=
 ⟨fun i hi => h.dom (hs i hi), SV.conc_congr s fun i hi => h.same i (hs i hi)⟩
theorem applyE_tr {bl : Nat → Option Blk} {nx id : Nat} (hid : bl id = none) (hnx : nx ≤ id) (E : Eff) {β β' : Nat → Loc} (hs : ∀ i, bl i ≠ none → β' i = β i) : Tr bl nx (wrI E) β (applyE bl id E) β' := by
 refine ⟨fun i B hB => ?_, hs, fun i hi h0 => ?_⟩
 rotate_left
 · have hne : i ≠ id := by omega
   have key : (match E.wr with
    | some (i, e, o, cs) => match bl i with
      | some B => upd bl i (B.put e o cs)
      | none => bl
    | none => bl) i = none := by
    cases hw : E.wr with
    | none => exact h0
    | some p =>
      obtain ⟨j, e, o, cs⟩ := p
      simp only []
      cases hj : bl j with
      | none => exact h0
      | some C =>
        simp only []
        have hij : i ≠ j := fun e => by rw [e, hj] at h0; cases h0
        rw [upd_ne hij]; exact h0
   unfold applyE
   cases hn : E.nw with
   | none => exact key
   | some N => exact (upd_ne hne).trans key
 have hne : i ≠ id := fun e => by rw [e, hid] at hB; cases hB
 have key : ∃ B', (match E.wr with
  | some (i, e, o, cs) => match bl i with
    | some B => upd bl i (B.put e o cs)
    | none => bl
  | none => bl) i = some B' ∧ B'.n = B.n ∧ (B'.sz = B.sz ∧ B'.nn = B.nn) ∧ (B'.kd = B.kd ∨ B'.kd = .gone) ∧ (i ∉ wrI E → B' = B) := by
  cases hw : E.wr with
  | none => exact ⟨B, hB, rfl, ⟨rfl, rfl⟩, .inl rfl, fun _ => rfl⟩
  | some p =>
    obtain ⟨j, e, o, cs⟩ := p
    simp only []
    cases hj : bl j with
    | none => exact ⟨B, hB, rfl, ⟨rfl, rfl⟩, .inl rfl, fun _ => rfl⟩
    | some C =>
      simp only []
      by_cases hij : i = j
      · subst hij
        rw [hB] at hj
        obtain rfl : B = C := by simpa using hj
        exact ⟨_, upd_same _ _ _, rfl, ⟨rfl, rfl⟩, .inl rfl, fun h => absurd (by simp [wrI, hw]) h⟩
      · exact ⟨B, by rw [upd_ne hij]; exact hB, rfl, ⟨rfl, rfl⟩, .inl rfl, fun _ => rfl⟩
 obtain ⟨B', h1, h2⟩ := key
 refine ⟨B', ?_, h2⟩
 unfold applyE
 cases hn : E.nw with
 | none => exact h1
 | some N => exact (upd_ne hne).trans h1
theorem put_tm {A : AS} {d t : Nat} {v : TV} : (A.put d v).tm t = if t = d then v else A.tm t := by
 by_cases h : t = d
 · subst h; simp [AS.put]
 · have : Nat.beq t d = false := by
    cases hh : Nat.beq t d with
    | false => rfl
    | true => exact absurd (Nat.eq_of_beq_eq_true hh) h
   simp [AS.put, this, h]
theorem act_put_getD (a : Act) (d t : Nat) (v : Value) (hd : d < a.tmps.size) : (a.put (some d) v).tmps.getD t undef = if t = d then v else a.tmps.getD t undef := by
 by_cases h : t = d
 · subst h; simp [Act.put, hd]
 · simp [Act.put, h, Array.getElem?_setIfInBounds_ne (Ne.symm h)]
theorem FR.carry {β β' : Nat → Loc} {A : AS} {a : Act} (h : FR β A a) {bl' : Nat → Option Blk} {nx : Nat} {W : List Nat} (ht : Tr A.bl nx W β bl' β') : FR β' { A with bl := bl' } a where
 defers := h.defers
 size := h.size
 v t s hs := by
  obtain ⟨h1, h2⟩ := h.v t s hs
  obtain ⟨k1, k2⟩ := Live.tr ht h2
  exact ⟨h1.trans k2.symm, k1⟩
 opt t u b s hs := by
  obtain ⟨h1, h2⟩ := h.opt t u b s hs
  refine ⟨fun e => ?_, h2⟩
  obtain ⟨h3, h4⟩ := h1 e
  obtain ⟨k1, k2⟩ := Live.tr ht h4
  exact ⟨h3.trans k2.symm, k1⟩
 os := h.os
theorem FR.putD {β : Nat → Loc} {A A' : AS} {a : Act} (h : FR β A a) {d : Option Tmp} {s : SV} (hl : Live A.bl s) (hp : putD A d (.v s) = some A') : FR β A' (a.put d (s.conc β)) ∧ A'.bl = A.bl ∧ A'.nx = A.nx ∧ A'.nt = A.nt ∧ A'.wl = A.wl := by
 cases d with
 | none => simp [Sy.putD] at hp; subst hp; exact ⟨h, rfl, rfl, rfl, rfl⟩
 | some d =>
   simp only [Sy.putD] at hp
   cases hc : (Nat.blt d A.nt && !A.ok d) with
   | false => rw [hc] at hp; simp at hp
   | true =>
     rw [hc] at hp
     simp only [cond_true, Option.some.injEq] at hp; subst hp
     simp only [Bool.and_eq_true, Bool.not_eq_true'] at hc
     have hlt : d < A.nt := by have := hc.1; simpa [Nat.blt_eq] using this
     have hsz : d < a.tmps.size := by rw [h.size]; exact hlt
     refine ⟨⟨?_, ?_, ?_, ?_, ?_⟩, rfl, rfl, rfl, rfl⟩
     · exact h.defers
     · simp only [AS.put, Act.put, Array.size_setIfInBounds]; exact h.size
     · intro t s' ht
       rw [put_tm] at ht
       rw [act_put_getD a d t _ hsz]
       by_cases htd : t = d
       · rw [if_pos htd] at ht ⊢
         obtain rfl : s = s' := by simpa using ht
         exact ⟨rfl, hl⟩
       · rw [if_neg htd] at ht ⊢
         exact h.v t s' ht
     · intro t u b s' ht
       rw [put_tm] at ht
       by_cases htd : t = d
       · rw [if_pos htd] at ht; cases ht
       · rw [if_neg htd] at ht
         have hk := (h.os t u b s' ht).2
         have hud : u ≠ d := fun e => by rw [e, hc.2] at hk; cases hk
         rw [act_put_getD a d t _ hsz, act_put_getD a d u _ hsz, if_neg htd, if_neg hud]
         exact h.opt t u b s' ht
     · intro t u b s' ht
       rw [put_tm] at ht
       by_cases htd : t = d
       · rw [if_pos htd] at ht; cases ht
       · rw [if_neg htd] at ht; exact h.os t u b s' ht
theorem FR.putG {β : Nat → Loc} {A A' : AS} {a : Act} (h : FR β A a) {d : Option Tmp} {t : Nat} {b : Bool} {s : SV} (hp : putG A d t b s = some A') {v : Value}
 (hv : (a.tmps.getD t undef = .bool b → v = s.conc β ∧ Live A.bl s) ∧ (a.tmps.getD t undef ≠ .bool b → v = undef)) : FR β A' (a.put d v) ∧ A'.bl = A.bl ∧ A'.nx = A.nx ∧ A'.nt = A.nt ∧ A'.wl = A.wl := by
 cases d with
 | none => simp [Sy.putG] at hp; subst hp; exact ⟨h, rfl, rfl, rfl, rfl⟩
 | some d =>
   simp only [Sy.putG] at hp
   cases hc : (Nat.blt d A.nt && !A.ok d && !Nat.beq d t) with
   | false => rw [hc] at hp; simp at hp
   | true =>
     rw [hc] at hp
     simp only [cond_true, Option.some.injEq] at hp; subst hp
     simp only [Bool.and_eq_true, Bool.not_eq_true'] at hc
     have hlt : d < A.nt := by have := hc.1.1; simpa [Nat.blt_eq] using this
     have hsz : d < a.tmps.size := by rw [h.size]; exact hlt
     have hdt : d ≠ t := fun e => by have := hc.2; rw [e] at this; simp at this
     refine ⟨⟨?_, ?_, ?_, ?_, ?_⟩, rfl, rfl, rfl, rfl⟩
     · exact h.defers
     · simp only [AS.put, Act.put, Array.size_setIfInBounds]; exact h.size
     · intro x s' hx
       have hx' : (A.put d (.opt t b s)).tm x = .v s' := hx
       rw [put_tm] at hx'
       rw [act_put_getD a d x _ hsz]
       by_cases hxd : x = d
       · rw [if_pos hxd] at hx'; cases hx'
       · rw [if_neg hxd] at hx' ⊢
         exact h.v x s' hx'
     · intro x u b' s' hx
       have hx' : (A.put d (.opt t b s)).tm x = .opt u b' s' := hx
       rw [put_tm] at hx'
       by_cases hxd : x = d
       · rw [if_pos hxd] at hx'
         simp only [TV.opt.injEq] at hx'
         obtain ⟨rfl, rfl, rfl⟩ := hx'
         rw [act_put_getD a d x _ hsz, act_put_getD a d t _ hsz, if_pos hxd, if_neg (Ne.symm hdt)]
         exact ⟨hv.1, hv.2⟩
       · rw [if_neg hxd] at hx'
         have hk := (h.os x u b' s' hx').2
         have hud : u ≠ d := fun e => by rw [e, hc.1.2] at hk; cases hk
         rw [act_put_getD a d x _ hsz, act_put_getD a d u _ hsz, if_neg hxd, if_neg hud]
         exact h.opt x u b' s' hx'
     · intro x u b' s' hx
       have hx' : (A.put d (.opt t b s)).tm x = .opt u b' s' := hx
       rw [put_tm] at hx'
       by_cases hxd : x = d
       · rw [if_pos hxd] at hx'
         simp only [TV.opt.injEq] at hx'
         obtain ⟨rfl, rfl, rfl⟩ := hx'
         subst hxd
         exact ⟨by simp, by simp⟩
       · rw [if_neg hxd] at hx'
         obtain ⟨k1, k2⟩ := h.os x u b' s' hx'
         refine ⟨?_, ?_⟩
         · show (bif Nat.beq x d then true else A.og x) = true
           cases Nat.beq x d <;> simp [k1]
         · show (bif Nat.beq u t then true else A.ok u) = true
           cases Nat.beq u t <;> simp [k2]
theorem wanted_iff {ops : Array Oper} {o : Oper} {a : Act} {j : Nat} {b : Bool} {t : Nat} (hg : o.guard = some (j, b)) (ht : (ops.toList[j]?).bind (·.dst) = some t) :
 Region.wanted o (yielded ops a.tmps) = true ↔ a.tmps.getD t undef = .bool b := by
 have h1 : (ops[j]?).bind (·.dst) = some t := by simpa using ht
 simp only [Region.wanted, hg, yielded, h1, Option.bind_some, Array.getD_eq_getD_getElem?]
 cases hx : a.tmps[t]? with
 | none => simp [undef]
 | some v => cases v <;> simp
theorem step_sound {Γ : FuncId → Option Ctr} (hΓ : GamOK P W0 Γ) {β : Nat → Loc} {A A' : AS} {a : Act} (h : FR β A a) {w : World} (hbc : BC W0 A.bl β w) {ops : Array Oper} {id : Nat} {o : Oper} {f : Foot}
 (hnx : A.nx ≤ id) (hs : step P Γ ops id o A = some (true, A', f)) {Q : Exit → Act → World → Prop} {K : Act → World → Prop}
 (hK : ∀ a' w' β', FR β' A' a' → BC W0 A'.bl β' w' → Tr A.bl A.nx f.2 β A'.bl β' → A'.nx = A.nx → A'.wl = A.wl → A'.nt = A.nt → K a' w') :
 if Region.wanted o (yielded ops a.tmps) then o.wp P a w K Q else K (a.put o.dst undef) w := by
 unfold step at hs
 cases hg : o.guard with
 | none =>
   rw [hg] at hs
   simp only [] at hs
   rw [if_pos (by simp [Region.wanted, hg])]
   split at hs
   · rename_i E hE
     cases hf : fresh A id with
     | false => rw [hf] at hs; simp at hs
     | true =>
       rw [hf] at hs
       simp only [cond_true] at hs
       have hid : A.bl id = none := by
        unfold fresh at hf
        cases hb : A.bl id with
        | none => rfl
        | some B => rw [hb] at hf; cases hf
       split at hs
       · rename_i A1 hp
         simp only [Option.some.injEq, Prod.mk.injEq] at hs
         obtain ⟨hn, rfl, rfl⟩ := hs
         have k := eff_sound hΓ h hbc (G := []) (fun p hp => by cases hp) hid o hE hn
         refine Runs.next k o a K Q fun w' β' g => ?_
         have tr := applyE_tr hid hnx E g.same
         obtain ⟨r1, r2, r3, r4, r5⟩ := FR.putD (h.carry tr) g.live hp
         exact hK _ _ β' r1 (by rw [r2]; exact g.bc) (by rw [r2]; exact tr.mono fun i hi => by simp [footE, hi]) r3 r5 r4
       · cases hs
   · cases hs
 | some p =>
   obtain ⟨j, b⟩ := p
   rw [hg] at hs
   simp only [] at hs
   split at hs
   · rename_i t ht
     split at hs
     · rename_i g E htr hE
       split at hs
       · rename_i hw hnw
         cases hf : fresh A id with
         | false => rw [hf] at hs; simp at hs
         | true =>
           rw [hf] at hs
           simp only [cond_true] at hs
           have hid : A.bl id = none := by
            unfold fresh at hf
            cases hb : A.bl id with
            | none => rfl
            | some B => rw [hb] at hf; cases hf
           split at hs
           · rename_i A1 hp
             simp only [Option.some.injEq, Prod.mk.injEq] at hs
             obtain ⟨hn, rfl, rfl⟩ := hs
             have hgt := truth_sound h 9 t b g htr
             have happ : applyE A.bl id E = A.bl := by simp [applyE, hw, hnw]
             have hwr : wrI E = [] := by simp [wrI, hw]
             by_cases hwant : a.tmps.getD t undef = .bool b
             · rw [if_pos ((wanted_iff hg ht).2 hwant)]
               have hneed : E.need = true := by
                have : g = true := hgt.2 hwant
                rw [this] at hn
                unfold impB at hn
                split at hn
                · assumption
                · simp at hn
               have k := eff_sound hΓ h hbc (known_sound h 9 t b hwant) hid o hE hneed
               refine Runs.next k o a K Q fun w' β' g => ?_
               have tr := applyE_tr hid hnx E g.same
               have gl := g.live
               have gb := g.bc
               rw [happ] at tr gl gb
               obtain ⟨r1, r2, r3, r4, r5⟩ := FR.putG (h.carry tr) hp ⟨fun _ => ⟨rfl, gl⟩, fun e => absurd hwant e⟩
               exact hK _ _ β' r1 (by rw [r2]; exact gb) (by rw [r2]; exact tr.mono fun i hi => by simp [footE, hi]) r3 r5 r4
             · rw [if_neg (fun e => hwant ((wanted_iff hg ht).1 e))]
               obtain ⟨r1, r2, r3, r4, r5⟩ := FR.putG h hp (v := undef) ⟨fun e => absurd e hwant, fun _ => rfl⟩
               exact hK _ _ β r1 (by rw [r2]; exact hbc) (by rw [r2]; exact Tr.refl _ _ _ _) r3 r5 r4
           · cases hs
       · cases hs
     · cases hs
   · cases hs
end
section
variable {P : Program} {W0 : World}
theorem evs_congr {tm tm' : Nat → TV} {G : List (Nat × Bool)} : ∀ {l : List Operand}, (∀ x ∈ l, ev tm' G x = ev tm G x) → evs tm' G l = evs tm G l
 | [], _ => rfl
 | x :: xs, h => by simp only [evs, h x (by simp), evs_congr (fun y hy => h y (List.mem_cons_of_mem _ hy))]
theorem evParts_congr {tm tm' : Nat → TV} {G : List (Nat × Bool)} : ∀ {l : List (Nat × Operand)}, (∀ p ∈ l, ev tm' G p.2 = ev tm G p.2) → evParts tm' G l = evParts tm G l
 | [], _ => rfl
 | (i, x) :: xs, h => by simp only [evParts, h (i, x) (by simp), evParts_congr (fun y hy => h y (List.mem_cons_of_mem _ hy))]
theorem target_congr {tm tm' : Nat → TV} {G : List (Nat × Bool)} {c : Call} (h : ∀ x ∈ c.operands, ev tm' G x = ev tm G x) : target tm' G c = target tm G c := by
 unfold target
 cases hc : c.callee with
 | value f =>
   have h1 : ev tm' G f = ev tm G f := h f (by simp [Call.operands, hc])
   have h2 : evs tm' G c.args.toList = evs tm G c.args.toList := evs_congr fun x hx => h x (by simp [Call.operands, hc]; right; simpa using hx)
   simp only [h1, h2]
 | _ => rfl
theorem eff_tm {Γ : FuncId → Option Ctr} {tm tm' : Nat → TV} {bl : Nat → Option Blk} {G : List (Nat × Bool)} {id : Nat} {op : Op} (h : ∀ x ∈ op.operands, ∀ G, ev tm' G x = ev tm G x) :
 eff P Γ tm' bl G id op = eff P Γ tm bl G id op := by
 cases op with
 | pick c x y =>
   have h1 := h c (by simp [Op.operands])
   have h2 := h x (by simp [Op.operands])
   have h3 := h y (by simp [Op.operands])
   simp only [eff, h1, h2, h3]
 | build t parts =>
   have h1 : evParts tm' G parts.toList = evParts tm G parts.toList := evParts_congr fun p hp => h p.2 (by simp [Op.operands]; exact ⟨p.1, by simpa using hp⟩) G
   simp only [eff, h1]
 | buildSlice t n parts =>
   have h1 : evParts tm' G parts.toList = evParts tm G parts.toList := evParts_congr fun p hp => h p.2 (by simp [Op.operands]; exact ⟨p.1, by simpa using hp⟩) G
   simp only [eff, h1]
 | makeFunc f a c =>
   have h1 : evs tm' G a.toList = evs tm G a.toList := evs_congr fun x hx => h x (by simp [Op.operands]; left; simpa using hx) G
   have h2 : evs tm' G c.toList = evs tm G c.toList := evs_congr fun x hx => h x (by simp [Op.operands]; right; simpa using hx) G
   simp only [eff, h1, h2]
 | slice t x lo hi mx =>
   have h1 := h x (by simp [Op.operands])
   have h2 : lo.bind (ev tm' G) = lo.bind (ev tm G) := by
    cases lo with
    | none => rfl
    | some l => exact h l (by simp [Op.operands]) G
   have h3 : hi.bind (ev tm' G) = hi.bind (ev tm G) := by
    cases hi with
    | none => rfl
    | some l => exact h l (by simp [Op.operands]) G
   cases mx <;> simp only [eff, h1, h2, h3]
 | call c =>
   have h1 : target tm' G c = target tm G c := target_congr fun x hx => h x hx G
   have h2 : evs tm' G c.args.toList = evs tm G c.args.toList := evs_congr fun x hx => h x (by simp [Op.operands, Call.operands]; right; simpa using hx) G
   simp only [eff, h1, h2]
 | move x => simp only [eff, h x (by simp [Op.operands])]
 | assign x => simp only [eff, h x (by simp [Op.operands])]
 | box t x => simp only [eff, h x (by simp [Op.operands])]
 | load t x => simp only [eff, h x (by simp [Op.operands])]
 | store t x y => simp only [eff, h x (by simp [Op.operands]), h y (by simp [Op.operands])]
 | nilCheck x => simp only [eff, h x (by simp [Op.operands])]
 | binOp o t x y u => simp only [eff, h x (by simp [Op.operands]), h y (by simp [Op.operands])]
 | unOp o t x => simp only [eff, h x (by simp [Op.operands])]
 | convert s d x => simp only [eff, h x (by simp [Op.operands])]
 | fieldAddr t x i => simp only [eff, h x (by simp [Op.operands])]
 | field t x i => simp only [eff, h x (by simp [Op.operands])]
 | indexAddr t x y => simp only [eff, h x (by simp [Op.operands]), h y (by simp [Op.operands])]
 | index t x y => simp only [eff, h x (by simp [Op.operands]), h y (by simp [Op.operands])]
 | extract x i => simp only [eff, h x (by simp [Op.operands])]
 | _ => simp only [eff]
theorem bif_some {α : Type} {c : Bool} {y : Option α} {e : α} (h : (bif c then y else none) = some e) : y = some e := by
 cases c
 · cases h
 · exact h
theorem eff_bl {Γ : FuncId → Option Ctr} {tm : Nat → TV} {bl bl' : Nat → Option Blk} {G : List (Nat × Bool)} {id : Nat} {op : Op} {E : Eff} (he : eff P Γ tm bl G id op = some E)
 (h : ∀ i, i ∈ E.rd ∨ i ∈ wrI E → bl' i = bl i) : eff P Γ tm bl' G id op = some E := by
 cases op with
 | load t x =>
   simp only [eff] at he ⊢
   split at he
   · rename_i s hs
     unfold loadS at he ⊢
     split at he
     · rename_i i e o
       have hr : ∀ B, bl i = some B → i ∈ E.rd := by
        intro B hB
        rw [hB] at he
        simp only [] at he
        have : ∀ (x : Option Eff), (match aggT P t, szT P t with
         | some false, _ => match (B.get e)[o]? with
           | some s => some ({ need := decide (e < B.n), out := s, rd := [i] } : Eff)
           | none => none
         | some true, some n => bif Nat.beq (((B.get e).drop o).take n).length n then some { need := decide (e < B.n), out := .agg (((B.get e).drop o).take n), rd := [i] } else none
         | _, _ => none) = some E → i ∈ E.rd := by
         intro x hx
         split at hx
         · split at hx
           · simp at hx; subst hx; simp
           · cases hx
         · rename_i n _ _
           cases hb : Nat.beq (((B.get e).drop o).take n).length n with
           | false => rw [hb] at hx; simp at hx
           | true => rw [hb] at hx; simp only [cond_true, Option.some.injEq] at hx; subst hx; simp
         · cases hx
        split at he
        · cases he
        · exact this none he
       cases hB : bl i with
       | none => rw [hB] at he; cases he
       | some B => rw [h i (.inl (hr B hB))]; exact he
     · cases he
   · cases he
 | store t x y =>
   simp only [eff] at he ⊢
   split at he
   · rename_i s v hs hv
     unfold storeS at he ⊢
     split at he
     · rename_i i e o
       have hr : i ∈ wrI E := by
        split at he
        · rename_i B hB
          split at he
          · split at he
            · rename_i n hsz
              cases hb : (Nat.beq v.cells.length n && v.cells.all SV.one && Nat.ble (o + v.cells.length) B.sz) with
              | false => rw [hb] at he; simp at he
              | true => rw [hb] at he; simp only [cond_true, Option.some.injEq] at he; subst he; simp [wrI]
            · cases he
          · cases he
        · cases he
       simp only [h i (.inr hr)]
       exact he
     · cases he
   · cases he
 | convert src dst x =>
   simp only [eff] at he ⊢
   split at he
   · exact he
   · exact he
   · rename_i i e n hs
     have hr : i ∈ E.rd := by
      split at he
      · rename_i el B _ _ hB
        split at he
        · split at he
          · cases hb : (Nat.beq B.sz 1 && B.nn && Nat.beq e 0) with
            | false => rw [hb] at he; simp at he
            | true => rw [hb] at he; simp only [cond_true, Option.some.injEq] at he; subst he; simp
          · cases he
        · cases he
      · cases he
     simp only [h i (.inl hr)]
     exact he
   · cases he
 | indexAddr t x y =>
   simp only [eff] at he ⊢
   split at he
   · exact he
   · rename_i i e n k ix hs hv
     have hr : i ∈ E.rd := by
      split at he
      · rename_i el B _ hB
        split at he
        · cases he
        · rename_i s _ _
          cases hb : Nat.beq s B.sz with
          | false => rw [hb] at he; simp at he
          | true => rw [hb] at he; simp only [cond_true, Option.some.injEq] at he; subst he; simp
        · cases he
      · cases he
     simp only [h i (.inl hr)]
     exact he
   · cases he
 | call c =>
   simp only [eff] at he ⊢
   split at he
   · split at he
     · rename_i args _
       exact he
     · cases he
   · exact he
 | slice t x lo hi mx =>
   cases mx with
   | some m => simp [eff] at he
   | none =>
     simp only [eff] at he ⊢
     split at he
     · exact he
     · rename_i i e n el hs hu
       have hr : i ∈ E.rd := by
        split at he
        · rename_i b l r B s _ hB _
          split at he
          · cases he
          · have he := bif_some he
            simp only [Option.some.injEq] at he; subst he; simp
        · cases he
       simp only [h i (.inl hr)]
       exact he
     · cases he
 | _ => exact he
structure Dl where
 d : Option Nat
 tv : TV
 key : Option Nat
 E : Eff
def setT (d : Option Nat) (v : TV) (tm : Nat → TV) : Nat → TV := fun t => match d with
 | some d => bif Nat.beq t d then v else tm t
 | none => tm t
def setF (d : Option Nat) (f : Nat → Bool) : Nat → Bool := fun t => match d with
 | some d => bif Nat.beq t d then true else f t
 | none => f t
theorem setT_none (v : TV) (tm : Nat → TV) : setT none v tm = tm := rfl
theorem setT_some (d : Nat) (v : TV) (tm : Nat → TV) : setT (some d) v tm = fun t => bif Nat.beq t d then v else tm t := rfl
theorem setF_none (f : Nat → Bool) : setF none f = f := rfl
theorem setF_some (d : Nat) (f : Nat → Bool) : setF (some d) f = fun t => (Nat.beq t d || f t) := by
 funext t; simp only [setF]; cases Nat.beq t d <;> rfl
theorem setT_ne {d : Option Nat} {v : TV} {tm : Nat → TV} {t : Nat} (h : d ≠ some t) : setT d v tm t = tm t := by
 cases d with
 | none => rfl
 | some x =>
   have : Nat.beq t x = false := by
    cases hh : Nat.beq t x with
    | false => rfl
    | true => exact absurd (congrArg some (Nat.eq_of_beq_eq_true hh).symm) h
   simp [setT, this]
def app (D : Dl) (id : Nat) (A : AS) : AS :=
 { A with tm := setT D.d D.tv A.tm, bl := applyE A.bl id D.E, og := setF (D.key.bind fun _ => D.d) A.og, ok := setF (D.d.bind fun _ => D.key) A.ok }
def Src (P : Program) (Γ : FuncId → Option Ctr) (ops : Array Oper) (id : Nat) (o : Oper) (A : AS) (D : Dl) : Prop :=
 match o.guard with
 | none => D.key = none ∧ D.tv = .v D.E.out ∧ D.E.need = true ∧ eff P Γ A.tm A.bl [] id o.op = some D.E
 | some (j, b) => ∃ t g, (ops.toList[j]?).bind (·.dst) = some t ∧ D.key = some t ∧ truth A.tm 9 t b = some g ∧ eff P Γ A.tm A.bl (known A.tm 9 t b) id o.op = some D.E ∧ D.E.wr = none ∧ D.E.nw = none ∧ impB g D.E.need = true ∧ D.tv = .opt t b D.E.out
structure Stp (P : Program) (Γ : FuncId → Option Ctr) (ops : Array Oper) (id : Nat) (o : Oper) (A : AS) (D : Dl) : Prop where
 d : D.d = o.dst
 fresh : A.bl id = none
 put : ∀ d, o.dst = some d → d < A.nt ∧ A.ok d = false ∧ D.key ≠ some d
 src : Src P Γ ops id o A D
theorem fresh_iff {A : AS} {id : Nat} : fresh A id = true ↔ A.bl id = none := by
 unfold fresh; cases A.bl id <;> simp
theorem step_iff {Γ : FuncId → Option Ctr} {ops : Array Oper} {id : Nat} {o : Oper} {A A' : AS} {f : Foot} :
 step P Γ ops id o A = some (true, A', f) ↔ ∃ D, Stp P Γ ops id o A D ∧ A' = app D id A ∧ f = footE id D.E := by
 constructor
 · intro h
   unfold step at h
   cases hg : o.guard with
   | none =>
     rw [hg] at h
     simp only [] at h
     split at h
     · rename_i E hE
       cases hf : Sy.fresh A id with
       | false => rw [hf] at h; simp at h
       | true =>
         rw [hf] at h
         simp only [cond_true] at h
         split at h
         · rename_i A1 hp
           simp only [Option.some.injEq, Prod.mk.injEq] at h
           obtain ⟨hn, rfl, rfl⟩ := h
           refine ⟨⟨o.dst, .v E.out, none, E⟩, ⟨rfl, fresh_iff.1 hf, ?_, by simp only [Src, hg]; exact ⟨trivial, trivial, hn, hE⟩⟩, ?_, rfl⟩
           · intro d hd
             rw [hd] at hp
             simp only [Sy.putD] at hp
             cases hc : (Nat.blt d A.nt && !A.ok d) with
             | false => rw [hc] at hp; simp at hp
             | true =>
               simp only [Bool.and_eq_true, Bool.not_eq_true'] at hc
               exact ⟨by have := hc.1; simpa [Nat.blt_eq] using this, hc.2, by simp⟩
           · cases hd : o.dst with
             | none => rw [hd] at hp; simp [Sy.putD] at hp; subst hp; rfl
             | some d =>
               rw [hd] at hp
               simp only [Sy.putD] at hp
               cases hc : (Nat.blt d A.nt && !A.ok d) with
               | false => rw [hc] at hp; simp at hp
               | true => rw [hc] at hp; simp only [cond_true, Option.some.injEq] at hp; subst hp; rfl
         · cases h
     · cases h
   | some p =>
     obtain ⟨j, b⟩ := p
     rw [hg] at h
     simp only [] at h
     split at h
     · rename_i t ht
       split at h
       · rename_i g E htr hE
         split at h
         · rename_i hw hnw
           cases hf : Sy.fresh A id with
           | false => rw [hf] at h; simp at h
           | true =>
             rw [hf] at h
             simp only [cond_true] at h
             split at h
             · rename_i A1 hp
               simp only [Option.some.injEq, Prod.mk.injEq] at h
               obtain ⟨hn, rfl, rfl⟩ := h
               have happ : applyE A.bl id E = A.bl := by simp [applyE, hw, hnw]
               refine ⟨⟨o.dst, .opt t b E.out, some t, E⟩, ⟨rfl, fresh_iff.1 hf, ?_, by simp only [Src, hg]; exact ⟨t, g, ht, rfl, htr, hE, hw, hnw, hn, rfl⟩⟩, ?_, rfl⟩
               · intro d hd
                 rw [hd] at hp
                 simp only [Sy.putG] at hp
                 cases hc : (Nat.blt d A.nt && !A.ok d && !Nat.beq d t) with
                 | false => rw [hc] at hp; simp at hp
                 | true =>
                   simp only [Bool.and_eq_true, Bool.not_eq_true'] at hc
                   refine ⟨by have := hc.1.1; simpa [Nat.blt_eq] using this, hc.1.2, fun e => ?_⟩
                   simp only [Option.some.injEq] at e
                   have := hc.2
                   rw [e] at this; simp at this
               · cases hd : o.dst with
                 | none => rw [hd] at hp; simp [Sy.putG] at hp; subst hp; simp [app, setT_none, setT_some, setF_none, setF_some, happ]
                 | some d =>
                   rw [hd] at hp
                   simp only [Sy.putG] at hp
                   cases hc : (Nat.blt d A.nt && !A.ok d && !Nat.beq d t) with
                   | false => rw [hc] at hp; simp at hp
                   | true => rw [hc] at hp; simp at hp; subst hp; simp [app, setT_none, setT_some, setF_none, setF_some, happ, AS.put]
             · cases h
         · cases h
       · cases h
     · cases h
 · rintro ⟨D, hs, rfl, rfl⟩
   have hf := fresh_iff.2 hs.fresh
   have src := hs.src
   unfold Src at src
   unfold step
   cases hg : o.guard with
   | none =>
     rw [hg] at src
     obtain ⟨h1, h2, h3, h4⟩ := src
     simp only [h4, hf, cond_true]
     cases hd : o.dst with
     | none =>
       simp only [Sy.putD]
       simp [app, setT_none, setT_some, setF_none, setF_some, hs.d, hd, h1, h3]
     | some d =>
       obtain ⟨p1, p2, p3⟩ := hs.put d hd
       have hb : Nat.blt d A.nt = true := by simpa [Nat.blt_eq] using p1
       simp [Sy.putD, hb, p2, app, setT_none, setT_some, setF_none, setF_some, hs.d, hd, h1, h2, h3, AS.put]
   | some p =>
     obtain ⟨j, b⟩ := p
     rw [hg] at src
     obtain ⟨t, g, h1, h2, h3, h4, h5, h6, h7, h8⟩ := src
     have happ : applyE A.bl id D.E = A.bl := by simp [applyE, h5, h6]
     simp only [h1, h3, h4, h5, h6, hf, cond_true]
     cases hd : o.dst with
     | none =>
       simp only [Sy.putG]
       simp [app, setT_none, setT_some, setF_none, setF_some, hs.d, hd, h2, h7, happ]
     | some d =>
       obtain ⟨p1, p2, p3⟩ := hs.put d hd
       have hb : Nat.blt d A.nt = true := by simpa [Nat.blt_eq] using p1
       have hdt : Nat.beq d t = false := by rw [nbeq]; simp; intro e; exact p3 (by rw [h2, e])
       simp [Sy.putG, hb, p2, hdt, app, setT_none, setT_some, setF_none, setF_some, hs.d, hd, h2, h7, h8, AS.put, happ]
def OS (A : AS) : Prop := ∀ t u b s, A.tm t = .opt u b s → A.og t = true ∧ A.ok u = true
theorem truth_set {A : AS} (hos : OS A) {d : Option Nat} (hd : ∀ x, d = some x → A.ok x = false) {v : TV} : ∀ (k t : Nat) (b : Bool), d ≠ some t → truth (setT d v A.tm) k t b = truth A.tm k t b
 | 0, t, b, _ => rfl
 | k + 1, t, b, ht => by
   have h1 : setT d v A.tm t = A.tm t := setT_ne ht
   simp only [truth, h1]
   cases hx : A.tm t with
   | opt t' b' s =>
     have hk := (hos t t' b' s hx).2
     have := truth_set hos hd (v := v) k t' b' (fun e => by have := hd t' e; rw [hk] at this; cases this)
     cases s with
     | val x => cases x <;> first | rfl | simp only [this]
     | _ => rfl
   | v s =>
     cases s with
     | val x => cases x <;> rfl
     | _ => rfl
   | dead => rfl
theorem known_set {A : AS} (hos : OS A) {d : Option Nat} (hd : ∀ x, d = some x → A.ok x = false) {v : TV} : ∀ (k t : Nat) (b : Bool), d ≠ some t → known (setT d v A.tm) k t b = known A.tm k t b
 | 0, t, b, _ => rfl
 | k + 1, t, b, ht => by
   have h1 : setT d v A.tm t = A.tm t := setT_ne ht
   simp only [known, h1]
   cases hx : A.tm t with
   | opt t' b' s =>
     have hk := (hos t t' b' s hx).2
     have := known_set hos hd (v := v) k t' b' (fun e => by have := hd t' e; rw [hk] at this; cases this)
     simp only [this]
   | _ => rfl
theorem ev_set {d : Option Nat} {v : TV} {tm : Nat → TV} {x : Operand} (h : ∀ t, x = .tmp t → d ≠ some t) (G : List (Nat × Bool)) : ev (setT d v tm) G x = ev tm G x := by
 cases x with
 | tmp t =>
   have ht := h t rfl
   have h1 : setT d v tm t = tm t := setT_ne ht
   simp only [ev, h1]
 | _ => rfl
theorem applyE_other {bl : Nat → Option Blk} {id : Nat} {E : Eff} {i : Nat} (h1 : i ∉ wrI E) (h2 : i ∉ nwI id E) : applyE bl id E i = bl i := by
 unfold applyE
 have key : (match E.wr with
  | some (i, e, o, cs) => match bl i with
    | some B => upd bl i (B.put e o cs)
    | none => bl
  | none => bl) i = bl i := by
  cases hw : E.wr with
  | none => rfl
  | some p =>
    obtain ⟨j, e, o, cs⟩ := p
    have hij : i ≠ j := fun e => h1 (by simp [wrI, hw, e])
    simp only []
    cases bl j with
    | none => rfl
    | some B => exact upd_ne hij
 cases hn : E.nw with
 | none => exact key
 | some N =>
   have hii : i ≠ id := fun e => h2 (by simp [nwI, hn, e])
   exact (upd_ne hii).trans key
theorem mem_hits {x y : List Nat} (h : hits x y = false) {i : Nat} (hx : i ∈ x) : i ∉ y := by
 intro hy
 have : hits x y = true := by
  unfold hits
  simp only [List.any_eq_true]
  exact ⟨i, hx, i, hy, by simp⟩
 rw [h] at this; cases this
theorem Stp.over {Γ : FuncId → Option Ctr} {ops : Array Oper} {idx idi : Nat} {ox oi : Oper} {A : AS} {Dx Di : Dl} (hos : OS A) (hx : Stp P Γ ops idx ox A Dx)
 (hap1 : ∀ d, ox.dst = some d → d ∉ oi.looksAt ops) (hne : idx ≠ idi)
 (hfoot : ∀ i, (i ∈ Di.E.rd ∨ i ∈ wrI Di.E) → i ∉ wrI Dx.E ∧ i ∉ nwI idx Dx.E) :
 (Src P Γ ops idi oi (app Dx idx A) Di ↔ Src P Γ ops idi oi A Di) := by
 have hd : ∀ x, Dx.d = some x → A.ok x = false := fun x e => (hx.put x (by rw [← hx.d, e])).2.1
 have hev : ∀ x ∈ oi.op.operands, ∀ G, ev (setT Dx.d Dx.tv A.tm) G x = ev A.tm G x := fun x hxo G => ev_set (fun t e he => by
  subst e
  exact hap1 t (by rw [← hx.d, he]) (List.mem_append_left _ (List.mem_filterMap.2 ⟨.tmp t, by simpa using hxo, rfl⟩))) G
 have hbl : ∀ i, (i ∈ Di.E.rd ∨ i ∈ wrI Di.E) → applyE A.bl idx Dx.E i = A.bl i := fun i hi => applyE_other (hfoot i hi).1 (hfoot i hi).2
 have heff : ∀ G, eff P Γ (app Dx idx A).tm (app Dx idx A).bl G idi oi.op = some Di.E ↔ eff P Γ A.tm A.bl G idi oi.op = some Di.E := by
  intro G
  show eff P Γ (setT Dx.d Dx.tv A.tm) (applyE A.bl idx Dx.E) G idi oi.op = some Di.E ↔ _
  rw [eff_tm hev]
  exact ⟨fun h => eff_bl h fun i hi => (hbl i hi).symm, fun h => eff_bl h fun i hi => hbl i hi⟩
 unfold Src
 cases hg : oi.guard with
 | none => simp only [heff]
 | some p =>
   obtain ⟨j, b⟩ := p
   have hkey : ∀ t, (ops.toList[j]?).bind (·.dst) = some t → Dx.d ≠ some t := fun t ht he => by
    refine hap1 t (by rw [← hx.d, he]) (List.mem_append_right _ ?_)
    rw [hg]
    simp at ht ⊢
    exact ht
   constructor
   · rintro ⟨t, g, h1, h2, h3, h4, h5⟩
     refine ⟨t, g, h1, h2, ?_, ?_, h5⟩
     · rw [← truth_set hos hd 9 t b (hkey t h1)]; exact h3
     · have := (heff _).1 h4
       rw [show known (app Dx idx A).tm 9 t b = known A.tm 9 t b from known_set hos hd 9 t b (hkey t h1)] at this
       exact this
   · rintro ⟨t, g, h1, h2, h3, h4, h5⟩
     refine ⟨t, g, h1, h2, ?_, ?_, h5⟩
     · show truth (setT Dx.d Dx.tv A.tm) 9 t b = _
       rw [truth_set hos hd 9 t b (hkey t h1)]; exact h3
     · rw [show known (app Dx idx A).tm 9 t b = known A.tm 9 t b from known_set hos hd 9 t b (hkey t h1)]
       exact (heff _).2 h4
def U (p : Option (Nat × (Option Blk → Option Blk))) (bl : Nat → Option Blk) : Nat → Option Blk := fun i => match p with
 | some (j, F) => if i = j then F (bl i) else bl i
 | none => bl i
theorem U_comm {p q : Option (Nat × (Option Blk → Option Blk))} (h : ∀ j F k H, p = some (j, F) → q = some (k, H) → j ≠ k) (bl : Nat → Option Blk) : U p (U q bl) = U q (U p bl) := by
 funext i
 cases p with
 | none => rfl
 | some a =>
   cases q with
   | none => rfl
   | some b =>
     obtain ⟨j, F⟩ := a
     obtain ⟨k, H⟩ := b
     have hjk := h j F k H rfl rfl
     simp only [U]
     by_cases h1 : i = j
     · have h2 : i ≠ k := fun e => hjk (h1.symm.trans e)
       simp [h1, h2, hjk]
     · simp [h1]
def wrU (E : Eff) : Option (Nat × (Option Blk → Option Blk)) := match E.wr with
 | some (i, e, o, cs) => some (i, fun b => b.map fun B => B.put e o cs)
 | none => none
def nwU (id : Nat) (E : Eff) : Option (Nat × (Option Blk → Option Blk)) := match E.nw with
 | some B => some (id, fun _ => some B)
 | none => none
theorem applyE_U (bl : Nat → Option Blk) (id : Nat) (E : Eff) : applyE bl id E = U (nwU id E) (U (wrU E) bl) := by
 have key : (match E.wr with
  | some (i, e, o, cs) => match bl i with
    | some B => upd bl i (B.put e o cs)
    | none => bl
  | none => bl) = U (wrU E) bl := by
  funext i
  cases hw : E.wr with
  | none => simp [wrU, hw, U]
  | some p =>
    obtain ⟨j, e, o, cs⟩ := p
    simp only [wrU, hw, U]
    by_cases hij : i = j
    · subst hij
      rw [if_pos rfl]
      cases hb : bl i with
      | none => simp [hb]
      | some B => simp [upd_same]
    · rw [if_neg hij]
      cases hb : bl j with
      | none => rfl
      | some B => exact upd_ne hij
 have e1 : applyE bl id E = match E.nw with
  | some B => upd (U (wrU E) bl) id B
  | none => U (wrU E) bl := by
  rw [← key]; rfl
 rw [e1]
 cases hn : E.nw with
 | none => simp only [nwU, hn]; rfl
 | some B =>
   simp only [nwU, hn]
   funext i
   simp only [U]
   by_cases h : i = id
   · subst h; rw [upd_same]; simp
   · rw [upd_ne h, if_neg h]; rfl
theorem wrU_mem {E : Eff} {j : Nat} {F : Option Blk → Option Blk} (h : wrU E = some (j, F)) : j ∈ wrI E := by
 unfold wrU at h
 cases hw : E.wr with
 | none => simp [hw] at h
 | some p => obtain ⟨i, e, o, cs⟩ := p; simp [hw] at h; simp [wrI, hw, h.1]
theorem nwU_mem {E : Eff} {id j : Nat} {F : Option Blk → Option Blk} (h : nwU id E = some (j, F)) : j = id := by
 unfold nwU at h
 cases hw : E.nw with
 | none => simp [hw] at h
 | some p => simp [hw] at h; exact h.1.symm
theorem AS.ext' : ∀ (X Y : AS), X.tm = Y.tm → X.bl = Y.bl → X.nx = Y.nx → X.nt = Y.nt → X.wl = Y.wl → X.og = Y.og → X.ok = Y.ok → X = Y
 | ⟨_, _, _, _, _, _, _⟩, ⟨_, _, _, _, _, _, _⟩, rfl, rfl, rfl, rfl, rfl, rfl, rfl => rfl
theorem app_comm {A : AS} {Dx Di : Dl} {idx idi : Nat} (hd : ∀ d, Dx.d = some d → Di.d ≠ some d) (hne : idx ≠ idi)
 (hw : ∀ i ∈ wrI Dx.E, i ∉ wrI Di.E ∧ i ≠ idi) (hw' : ∀ i ∈ wrI Di.E, i ≠ idx) : app Di idi (app Dx idx A) = app Dx idx (app Di idi A) := by
 have htm : setT Di.d Di.tv (setT Dx.d Dx.tv A.tm) = setT Dx.d Dx.tv (setT Di.d Di.tv A.tm) := by
  funext t
  cases h1 : Dx.d with
  | none => simp only [setT_none]
  | some d =>
    cases h2 : Di.d with
    | none => simp only [setT_none]
    | some e =>
      have hne : d ≠ e := fun h => hd d h1 (by rw [h2, h])
      simp only [setT_some]
      by_cases h3 : t = d
      · subst h3
        have : Nat.beq t e = false := by rw [nbeq]; simpa using hne
        simp [this]
      · have : Nat.beq t d = false := by rw [nbeq]; simpa using h3
        simp [this]
 have hset : ∀ (a b : Option Nat) (f : Nat → Bool), setF a (setF b f) = setF b (setF a f) := by
  intro a b f
  cases a <;> cases b <;> simp only [setF_none, setF_some]
  funext t
  rw [← Bool.or_assoc, ← Bool.or_assoc]
  congr 1
  exact Bool.or_comm _ _
 have hbl : applyE (applyE A.bl idx Dx.E) idi Di.E = applyE (applyE A.bl idi Di.E) idx Dx.E := by
  simp only [applyE_U]
  rw [U_comm (p := wrU Di.E) (q := nwU idx Dx.E) (fun j F k H h1 h2 e => hw' j (wrU_mem h1) (by rw [e]; exact nwU_mem h2))]
  rw [U_comm (p := wrU Di.E) (q := wrU Dx.E) (fun j F k H h1 h2 e => (hw k (wrU_mem h2)).1 (by rw [← e]; exact wrU_mem h1))]
  rw [U_comm (p := nwU idi Di.E) (q := nwU idx Dx.E) (fun j F k H h1 h2 e => hne (by rw [← nwU_mem h2, ← e]; exact nwU_mem h1))]
  rw [U_comm (p := nwU idi Di.E) (q := wrU Dx.E) (fun j F k H h1 h2 e => (hw k (wrU_mem h2)).2 (by rw [← e]; exact nwU_mem h1))]
 refine AS.ext' _ _ htm hbl rfl rfl rfl ?_ ?_
 · exact hset _ _ _
 · exact hset _ _ _
theorem OS.app {A : AS} (h : OS A) {Γ : FuncId → Option Ctr} {ops : Array Oper} {id : Nat} {o : Oper} {D : Dl} (hs : Stp P Γ ops id o A D) : OS (app D id A) := by
 intro t u b s ht
 have ht' : setT D.d D.tv A.tm t = .opt u b s := ht
 have hor : ∀ (d : Option Nat) (f : Nat → Bool) (x : Nat), f x = true → setF d f x = true := by
  intro d f x hx
  cases d with
  | none => exact hx
  | some d => rw [setF_some]; simp [hx]
 by_cases hd : D.d = some t
 · have htv : D.tv = .opt u b s := by
    rw [hd, setT_some] at ht'
    simpa using ht'
   have src := hs.src
   unfold Src at src
   cases hg : o.guard with
   | none => rw [hg] at src; rw [src.2.1] at htv; cases htv
   | some p =>
     obtain ⟨j, b'⟩ := p
     rw [hg] at src
     obtain ⟨t', g, h1, h2, h3, h4, h5, h6, h7, h8⟩ := src
     rw [h8] at htv
     simp only [TV.opt.injEq] at htv
     obtain ⟨rfl, rfl, rfl⟩ := htv
     refine ⟨?_, ?_⟩
     · show setF (D.key.bind fun _ => D.d) A.og t = true
       rw [h2, hd]; simp [setF_some]
     · show setF (D.d.bind fun _ => D.key) A.ok _ = true
       rw [h2, hd]; simp [setF_some]
 · rw [setT_ne hd] at ht'
   obtain ⟨k1, k2⟩ := h t u b s ht'
   exact ⟨hor _ _ _ k1, hor _ _ _ k2⟩
theorem eff_wr {Γ : FuncId → Option Ctr} {tm : Nat → TV} {bl : Nat → Option Blk} {G : List (Nat × Bool)} {id : Nat} {op : Op} {E : Eff} (he : eff P Γ tm bl G id op = some E) {i : Nat} (hi : i ∈ wrI E) : bl i ≠ none := by
 have p1 : ∀ {o : Option SV}, pure1 o = some E → False := fun h => by obtain ⟨s, _, rfl⟩ := pure1_some h; simp [wrI] at hi
 have p2 : ∀ {o : Option (Bool × SV)}, pure2 o = some E → False := fun h => by obtain ⟨b, s, _, rfl⟩ := pure2_some h; simp [wrI] at hi
 cases op with
 | store t x y =>
   simp only [eff] at he
   split at he
   · rename_i s v hs hv
     unfold storeS at he
     split at he
     · rename_i j e o
       split at he
       · rename_i B hB
         split at he
         · split at he
           · rename_i n hsz
             cases hb : (Nat.beq v.cells.length n && v.cells.all SV.one && Nat.ble (o + v.cells.length) B.sz) with
             | false => rw [hb] at he; simp at he
             | true =>
               rw [hb] at he; simp only [cond_true, Option.some.injEq] at he; subst he
               simp [wrI] at hi; subst hi
               rw [hB]; simp
           · cases he
         · cases he
       · cases he
     · cases he
   · cases he
 | box t x =>
   exfalso
   simp only [eff] at he
   split at he
   · cases he
   · simp only [Option.some.injEq] at he; subst he; simp [wrI] at hi
   · cases he
 | buildSlice t n parts =>
   exfalso
   simp only [eff] at he
   split at he
   · split at he
     · have he := bif_some he
       split at he
       · simp only [Option.some.injEq] at he; subst he; simp [wrI] at hi
       · cases he
     · cases he
   · cases he
 | load t x =>
   exfalso
   simp only [eff] at he
   split at he
   · have hw : E.wr = none := by
      unfold loadS at he
      split at he
      · split at he
        · split at he
          · cases he
          · split at he
            · split at he
              · simp only [Option.some.injEq] at he; subst he; rfl
              · cases he
            · have he := bif_some he
              simp only [Option.some.injEq] at he; subst he; rfl
            · cases he
        · cases he
      · cases he
     simp [wrI, hw] at hi
   · cases he
 | convert s d x =>
   exfalso
   simp only [eff] at he
   split at he
   · split at he
     · simp only [Option.some.injEq] at he; subst he; simp [wrI] at hi
     · cases he
   · split at he
     · simp only [Option.some.injEq] at he; subst he; simp [wrI] at hi
     · cases he
   · split at he
     · split at he
       · split at he
         · have he := bif_some he
           simp only [Option.some.injEq] at he; subst he; simp [wrI] at hi
         · cases he
       · cases he
     · cases he
   · cases he
 | slice t x lo hi' mx =>
   exfalso
   cases mx with
   | some m => simp [eff] at he
   | none =>
     simp only [eff] at he
     split at he
     · split at he
       · have he := bif_some he
         simp only [Option.some.injEq] at he; subst he; simp [wrI] at hi
       · cases he
     · split at he
       · split at he
         · cases he
         · have he := bif_some he
           simp only [Option.some.injEq] at he; subst he; simp [wrI] at hi
       · cases he
     · cases he
 | indexAddr t x y =>
   exfalso
   simp only [eff] at he
   split at he
   · split at he
     · split at he
       · simp only [Option.some.injEq] at he; subst he; simp [wrI] at hi
       · cases he
     · cases he
   · split at he
     · split at he
       · cases he
       · have he := bif_some he
         simp only [Option.some.injEq] at he; subst he; simp [wrI] at hi
       · cases he
     · cases he
   · cases he
 | index t x i =>
   exfalso
   simp only [eff] at he
   split at he
   · split at he
     · split at he
       · split at he
         · have he := bif_some he
           split at he
           · simp only [Option.some.injEq] at he; subst he; simp [wrI] at hi
           · cases he
         · cases he
       · split at he
         · simp only [Option.some.injEq] at he; subst he; simp [wrI] at hi
         · cases he
       · cases he
     · cases he
   · split at he
     · simp only [Option.some.injEq] at he; subst he; simp [wrI] at hi
     · cases he
   · cases he
 | call c =>
   exfalso
   simp only [eff] at he
   split at he
   · split at he
     · unfold callB at he
       split at he
       · split at he
         · exact p1 he
         · cases he
       · split at he
         · exact p1 he
         · cases he
       · split at he
         · exact p1 he
         · cases he
       · cases he
     · cases he
   · split at he
     · split at he
       · exact p2 he
       · cases he
     · cases he
 | _ =>
   exfalso
   simp only [eff] at he
   first
    | exact p1 he
    | (repeat' (first | (split at he) | (cases he; done)))
      all_goals first
       | exact p1 he
       | exact p2 he
       | (simp only [Option.some.injEq] at he; subst he; simp [wrI] at hi; done)
theorem step_comm {Γ : FuncId → Option Ctr} {ops : Array Oper} {idx idi : Nat} {ox oi : Oper} {A A1 A2 : AS} {fx fi : Foot} (hos : OS A)
 (h1 : step P Γ ops idx ox A = some (true, A1, fx)) (h2 : step P Γ ops idi oi A1 = some (true, A2, fi)) (hap : ox.apart ops oi = true) (hcl : clash fx fi = false) (hne : idx ≠ idi) :
 ∃ A1', step P Γ ops idi oi A = some (true, A1', fi) ∧ step P Γ ops idx ox A1' = some (true, A2, fx) := by
 obtain ⟨Dx, sx, rfl, rfl⟩ := step_iff.1 h1
 obtain ⟨Di, si, rfl, rfl⟩ := step_iff.1 h2
 obtain ⟨ap1, ap2, ap3⟩ := Oper.apart_spec hap
 unfold clash at hcl
 simp only [Bool.or_eq_false_iff] at hcl
 obtain ⟨⟨c1, c2⟩, c3⟩ := hcl
 have hwx : ∀ i, i ∈ wrI Dx.E ∨ i ∈ nwI idx Dx.E → i ∉ Di.E.rd ∧ i ∉ wrI Di.E ∧ i ∉ nwI idi Di.E := fun i hi => by
  have hm : i ∈ (footE idx Dx.E).2 := by simp only [footE, List.mem_append]; exact hi
  have a := mem_hits c1 hm
  have b := mem_hits c2 hm
  simp only [footE, List.mem_append, not_or] at a b
  exact ⟨a, b.1, b.2⟩
 have hrx : ∀ i ∈ Dx.E.rd, i ∉ wrI Di.E ∧ i ∉ nwI idi Di.E := fun i hi => by
  have b := mem_hits c3 (show i ∈ (footE idx Dx.E).1 from hi)
  simp only [footE, List.mem_append, not_or] at b
  exact b
 have sub1 : ∀ i, (i ∈ Di.E.rd ∨ i ∈ wrI Di.E) → i ∉ wrI Dx.E ∧ i ∉ nwI idx Dx.E := fun i hi =>
  ⟨fun h => (by rcases hi with hi | hi; exact (hwx i (.inl h)).1 hi; exact (hwx i (.inl h)).2.1 hi), fun h => (by rcases hi with hi | hi; exact (hwx i (.inr h)).1 hi; exact (hwx i (.inr h)).2.1 hi)⟩
 have srci : Src P Γ ops idi oi A Di := (Stp.over hos sx (fun d hd => ap1 d hd) hne sub1).1 si.src
 have keyx : ∀ d, oi.dst = some d → Dx.key ≠ some d := fun d hd he => by
  have src := sx.src
  unfold Src at src
  cases hg : ox.guard with
  | none => rw [hg] at src; rw [src.1] at he; cases he
  | some p =>
    obtain ⟨j, b⟩ := p
    rw [hg] at src
    obtain ⟨t, g, k1, k2, _⟩ := src
    rw [k2] at he
    refine ap3 d hd (List.mem_append_right _ ?_)
    rw [hg]
    simp at k1 ⊢
    simp only [Option.some.injEq] at he
    rw [← he]; exact k1
 have keyi : ∀ d, ox.dst = some d → Di.key ≠ some d := fun d hd he => by
  have src := si.src
  unfold Src at src
  cases hg : oi.guard with
  | none => rw [hg] at src; rw [src.1] at he; cases he
  | some p =>
    obtain ⟨j, b⟩ := p
    rw [hg] at src
    obtain ⟨t, g, k1, k2, _⟩ := src
    rw [k2] at he
    refine ap1 d hd (List.mem_append_right _ ?_)
    rw [hg]
    simp at k1 ⊢
    simp only [Option.some.injEq] at he
    rw [← he]; exact k1
 have okof : ∀ (d : Option Nat) (f : Nat → Bool) (x : Nat), setF d f x = false → f x = false := by
  intro d f x hx
  cases d with
  | none => exact hx
  | some d => rw [setF_some] at hx; simp at hx; exact hx.2
 have fri : A.bl idi = none := by
  have := si.fresh
  cases hb : A.bl idi with
  | none => rfl
  | some B =>
    have tr := applyE_tr sx.fresh (Nat.zero_le _) Dx.E (β := fun _ => ⟨0, 0, 0, 0, false⟩) (β' := fun _ => ⟨0, 0, 0, 0, false⟩) (fun _ _ => rfl)
    obtain ⟨B', h, _⟩ := tr.keep idi B hb
    have h' : (app Dx idx A).bl idi = some B' := h
    rw [h'] at this; cases this
 have sti : Stp P Γ ops idi oi A Di := ⟨si.d, fri, fun d hd => by
  obtain ⟨p1, p2, p3⟩ := si.put d hd
  exact ⟨p1, okof _ _ _ p2, p3⟩, srci⟩
 have hne' : idi ≠ idx := Ne.symm hne
 have sub2 : ∀ i, (i ∈ Dx.E.rd ∨ i ∈ wrI Dx.E) → i ∉ wrI Di.E ∧ i ∉ nwI idi Di.E := fun i hi => by
  rcases hi with hi | hi
  · exact hrx i hi
  · exact (hwx i (.inl hi)).2
 have srcx : Src P Γ ops idx ox (app Di idi A) Dx := (Stp.over hos sti (fun d hd => ap3 d hd) hne' sub2).2 sx.src
 have wdom : ∀ (o : Oper) (id : Nat) (D : Dl), Src P Γ ops id o A D → ∀ i ∈ wrI D.E, A.bl i ≠ none := fun o id D src i hi => by
  unfold Src at src
  cases hg : o.guard with
  | none =>
    rw [hg] at src
    exact eff_wr src.2.2.2 hi
  | some p =>
    obtain ⟨j, b⟩ := p
    rw [hg] at src
    obtain ⟨t, g, k1, k2, k3, k4, k5, _⟩ := src
    simp [wrI, k5] at hi
 have w1 : ∀ i ∈ wrI Dx.E, i ≠ idi := fun i hi e => wdom ox idx Dx sx.src i hi (by rw [e]; exact fri)
 have w2 : ∀ i ∈ wrI Di.E, i ≠ idx := fun i hi e => wdom oi idi Di srci i hi (by rw [e]; exact sx.fresh)
 have stx : Stp P Γ ops idx ox (app Di idi A) Dx := by
  refine ⟨sx.d, ?_, fun d hd => ?_, srcx⟩
  · show applyE A.bl idi Di.E idx = none
    rw [applyE_other (fun h => w2 idx h rfl) (fun h => by
     unfold nwI at h
     split at h
     · simp at h; exact hne h
     · cases h)]
    exact sx.fresh
  · obtain ⟨p1, p2, p3⟩ := sx.put d hd
    refine ⟨p1, ?_, p3⟩
    show setF (Di.d.bind fun _ => Di.key) A.ok d = false
    cases h3 : Di.d with
    | none => exact p2
    | some e =>
      cases h4 : Di.key with
      | none => exact p2
      | some k =>
        have hdk : d ≠ k := fun e => keyi d hd (by rw [h4, e])
        simp only [Option.bind_some, setF_some, nbeq, p2]
        simp [hdk]
 refine ⟨app Di idi A, step_iff.2 ⟨Di, sti, rfl, rfl⟩, step_iff.2 ⟨Dx, stx, ?_, rfl⟩⟩
 exact app_comm (fun d hd he => ap2 d (by rw [← sx.d, hd]) (by rw [← si.d, he])) hne (fun i hi => ⟨(hwx i (.inl hi)).2.1, w1 i hi⟩) w2
end
section
variable {P : Program} {W0 : World}
def StepAt (P : Program) (Γ : FuncId → Option Ctr) (ops : Array Oper) (base i : Nat) (A A' : AS) (f : Foot) : Prop :=
 ∃ o, ops.toList[i]? = some o ∧ step P Γ ops (base + i) o A = some (true, A', f)
def Steps (P : Program) (Γ : FuncId → Option Ctr) (ops : Array Oper) (base : Nat) (F : Nat → Foot) : List Nat → AS → AS → Prop
 | [], A, A' => A = A'
 | i :: r, A, A' => ∃ A1, StepAt P Γ ops base i A A1 (F i) ∧ Steps P Γ ops base F r A1 A'
theorem needB_iff {b : Bool} {K : Prop} : needB b K ↔ b = true ∧ K := by cases b <;> simp [needB]
theorem opsD_steps {Γ : FuncId → Option Ctr} {ops : Array Oper} {base : Nat} {K : AS → List Foot → Prop} : ∀ (rest : List Oper) (i : Nat) (A : AS) (tr : List Foot), (∀ j, rest[j]? = ops.toList[i + j]?) →
 opsD P Γ ops base rest i A tr K → ∃ (A' : AS) (trs : List Foot), trs.length = rest.length ∧ K A' (tr.reverse ++ trs) ∧ Steps P Γ ops base (fun x => trs.getD (x - i) ([], [])) (List.range' i rest.length) A A'
 | [], i, A, tr, _, h => ⟨A, [], rfl, by simpa [opsD] using h, rfl⟩
 | o :: rest, i, A, tr, hr, h => by
   simp only [opsD] at h
   split at h
   · rename_i b A1 f hs
     obtain ⟨hb, h⟩ := needB_iff.1 h
     subst hb
     obtain ⟨A', trs, h1, h2, h3⟩ := opsD_steps rest (i + 1) A1 (f :: tr) (fun j => by have := hr (j + 1); simpa [Nat.add_assoc, Nat.add_comm 1 j] using this) h
     refine ⟨A', f :: trs, by simp [h1], by simpa using h2, ?_⟩
     rw [List.length_cons, List.range'_succ]
     refine ⟨A1, ⟨o, by have := hr 0; simpa using this.symm, by simpa using hs⟩, ?_⟩
     have key : ∀ (l : List Nat) (A A' : AS), (∀ x ∈ l, i + 1 ≤ x) → Steps P Γ ops base (fun x => trs.getD (x - (i + 1)) ([], [])) l A A' → Steps P Γ ops base (fun x => (f :: trs).getD (x - i) ([], [])) l A A' := by
      intro l
      induction l with
      | nil => intro A A' _ h; exact h
      | cons y l ih =>
        intro A A' hl h
        obtain ⟨A2, ⟨o2, k1, k2⟩, k3⟩ := h
        have hy := hl y (by simp)
        refine ⟨A2, ⟨o2, k1, ?_⟩, ih _ _ (fun x hx => hl x (List.mem_cons_of_mem _ hx)) k3⟩
        rw [k2]
        have : y - i = (y - (i + 1)) + 1 := by omega
        simp [this]
     exact key _ _ _ (fun x hx => by simp [List.mem_range'] at hx; omega) h3
   · exact h.elim
theorem StepAt.os {Γ : FuncId → Option Ctr} {ops : Array Oper} {base i : Nat} {A A' : AS} {f : Foot} (h : StepAt P Γ ops base i A A' f) (hos : OS A) : OS A' := by
 obtain ⟨o, _, hs⟩ := h
 obtain ⟨D, st, rfl, _⟩ := step_iff.1 hs
 exact hos.app st
def Free2 (ops : Array Oper) (F : Nat → Foot) (x i : Nat) : Prop := x ≠ i ∧ ∃ ox oi, ops.toList[x]? = some ox ∧ ops.toList[i]? = some oi ∧ ox.apart ops oi = true ∧ clash (F x) (F i) = false
theorem Steps.bubble {Γ : FuncId → Option Ctr} {ops : Array Oper} {base : Nat} {F : Nat → Foot} {i : Nat} {v : List Nat} {A' : AS} : ∀ (u : List Nat) (A : AS), OS A → (∀ x ∈ u, Free2 ops F x i) →
 Steps P Γ ops base F (u ++ i :: v) A A' → Steps P Γ ops base F (i :: (u ++ v)) A A'
 | [], A, _, _, h => h
 | x :: u, A, hos, hf, h => by
   obtain ⟨A1, sx, hr⟩ := h
   obtain ⟨A2, si, hr2⟩ := Steps.bubble u A1 (sx.os hos) (fun y hy => hf y (List.mem_cons_of_mem _ hy)) hr
   obtain ⟨hne, ox, oi, h1, h2, hap, hcl⟩ := hf x (by simp)
   obtain ⟨ox', k1, k2⟩ := sx
   obtain ⟨oi', k3, k4⟩ := si
   rw [h1] at k1; obtain rfl : ox = ox' := by simpa using k1
   rw [h2] at k3; obtain rfl : oi = oi' := by simpa using k3
   obtain ⟨A1', c1, c2⟩ := step_comm hos k2 k4 hap hcl (by omega)
   exact ⟨A1', ⟨oi, h2, c1⟩, A2, ⟨ox, h1, c2⟩, hr2⟩
def Closed (ops : Array Oper) (listed : Array Bool) : Prop := ∀ i, listed.getD i false = true → ∀ o, ops.toList[i]? = some o → ∀ e ∈ o.after.toList, Region.binds .any e = true → listed.getD e.on false = true
theorem behind_listed {ops : Array Oper} {listed : Array Bool} (hc : Closed ops listed) : ∀ (k i x : Nat), (∀ o, ops.toList[i]? = some o → ∀ e ∈ o.after.toList, Region.binds .any e = true → listed.getD e.on false = true) →
 behind ops.toList k i x = true → listed.getD x false = true
 | 0, i, x, _, h => by simp [behind] at h
 | k + 1, i, x, hi, h => by
   simp only [behind] at h
   split at h
   · cases h
   · rename_i o ho
     simp only [List.any_eq_true, Bool.and_eq_true, Bool.or_eq_true] at h
     obtain ⟨e, he, hb, h⟩ := h
     have hl := hi o ho e he hb
     rcases h with h | h
     · rw [← Nat.eq_of_beq_eq_true h]; exact hl
     · exact behind_listed hc k e.on x (fun o' ho' e' he' hb' => hc e.on hl o' ho' e' he' hb') h
theorem FR.toOS {β : Nat → Loc} {A : AS} {a : Act} (h : FR β A a) : OS A := h.os
theorem wpAny_steps {Γ : FuncId → Option Ctr} (hΓ : GamOK P W0 Γ) {ops : Array Oper} {base : Nat} {F : Nat → Foot} {Q : Exit → Act → World → Prop} {A' : AS}
 (hfree : ∀ i x, i < ops.size → x < i → behind ops.toList ops.toList.length i x = true ∨ Free2 ops F x i)
 (hback : ∀ i o, ops.toList[i]? = some o → ∀ e ∈ o.after.toList, Region.binds .any e = true → e.on < i) {W : List Nat} (hW : ∀ i, ∀ j ∈ (F i).2, j ∈ W) {A0 : AS} {β0 : Nat → Loc} (hbase : base = A0.nx)
 (hQ : ∀ a w β, FR β A' a → BC W0 A'.bl β w → Tr A0.bl A0.nx W β0 A'.bl β → A'.nx = A0.nx → A'.wl = A0.wl → A'.nt = A0.nt → Q .normal a w) :
 ∀ (fuel : Nat) (listed : Array Bool) (rem : List Nat) (A : AS) (a : Act) (w : World) (β : Nat → Loc), listed.size = ops.size → rem.length ≤ fuel → rem.Pairwise (· < ·) → (∀ x, x ∈ rem ↔ x < ops.size ∧ listed.getD x true = false) → Closed ops listed →
  Steps P Γ ops base F rem A A' → FR β A a → BC W0 A.bl β w → Tr A0.bl A0.nx W β0 A.bl β → A.nx = A0.nx → A.wl = A0.wl → A.nt = A0.nt → wpAny P .any ops Q fuel listed a w := by
 intro fuel
 induction fuel with
 | zero =>
   intro listed rem A a w β hsz hlen hpw hrem hcl hst hfr hbc htr h1 h2 h3
   have hnil : rem = [] := List.length_eq_zero_iff.1 (by omega)
   subst hnil
   obtain rfl : A = A' := hst
   refine ⟨?_, hQ a w β hfr hbc htr h1 h2 h3⟩
   apply List.eq_nil_iff_forall_not_mem.2
   intro i hi
   obtain ⟨hun, o, ho, _⟩ := mem_ready.1 hi
   have hlt : i < ops.size := (Array.getElem?_eq_some_iff.1 ho).1
   exact absurd ((hrem i).2 ⟨hlt, hun⟩) (by simp)
 | succ fuel ih =>
   intro listed rem A a w β hsz hlen hpw hrem hcl hst hfr hbc htr h1 h2 h3
   refine ⟨fun hr => ?_, fun i hi => ?_⟩
   ·
    cases rem with
    | nil =>
      obtain rfl : A = A' := hst
      exact hQ a w β hfr hbc htr h1 h2 h3
    | cons i r =>
      exfalso
      have him := (hrem i).1 (by simp)
      have ho : ∃ o, ops[i]? = some o := ⟨ops[i], by simp [him.1]⟩
      obtain ⟨o, ho⟩ := ho
      have : i ∈ Region.ready .any ops listed := by
       refine mem_ready.2 ⟨him.2, o, ho, fun e he hb => ?_⟩
       have hlt := hback i o (by simpa using ho) e (by simpa using he) hb
       cases hl : listed.getD e.on false with
       | true => rfl
       | false =>
         have hes : e.on < listed.size := by omega
         have hun : listed.getD e.on true = false := by
          rw [← hl]; simp [Array.getD, hes]
         have hmem := (hrem e.on).2 ⟨by omega, hun⟩
         simp only [List.mem_cons] at hmem
         rcases hmem with h | h
         · omega
         · have := List.rel_of_pairwise_cons hpw h; omega
      rw [hr] at this; cases this
   · obtain ⟨hun, o, ho, hdeps⟩ := mem_ready.1 hi
     have hlt : i < ops.size := (Array.getElem?_eq_some_iff.1 ho).1
     have hol : ops.toList[i]? = some o := by simpa using ho
     have him : i ∈ rem := (hrem i).2 ⟨hlt, hun⟩
     obtain ⟨u, v, rfl⟩ := List.append_of_mem him
     have hpu : ∀ x ∈ u, x < i := fun x hx => (List.pairwise_append.1 hpw).2.2 x hx i (by simp)
     have hiu : i ∉ u := fun h => by have := hpu i h; omega
     have hiv : i ∉ v := fun h => by
      have := (List.pairwise_append.1 hpw).2.1
      have := List.rel_of_pairwise_cons this h
      omega
     have hf2 : ∀ x ∈ u, Free2 ops F x i := by
      intro x hx
      rcases hfree i x hlt (hpu x hx) with hb | hf
      · exfalso
        have hl := behind_listed hcl _ i x (fun o' ho' e he hb' => by
         rw [hol] at ho'; obtain rfl : o = o' := by simpa using ho'
         exact hdeps e (by simpa using he) hb') hb
        have hxm := (hrem x).1 (by simp [hx])
        have hxs : x < listed.size := by omega
        have := hxm.2
        simp [Array.getD, hxs] at this hl
        rw [this] at hl; cases hl
      · exact hf
     obtain ⟨A1, ⟨o', k1, k2⟩, hst2⟩ := Steps.bubble u A hfr.toOS hf2 hst
     rw [hol] at k1; obtain rfl : o = o' := by simpa using k1
     have k := step_sound hΓ hfr hbc (by omega) k2 (Q := Q) (K := wpAny P .any ops Q fuel (listed.setIfInBounds i true)) (fun a' w' β' r1 r2 r3 r4 r5 r6 => by
      refine ih (listed.setIfInBounds i true) (u ++ v) A1 a' w' β' (by simp [hsz]) (by simp at hlen ⊢; omega) ?_ ?_ ?_ hst2 r1 r2 ?_ (r4.trans h1) (r5.trans h2) (r6.trans h3)
      · have hp := List.pairwise_append.1 hpw
        refine List.pairwise_append.2 ⟨hp.1, (List.pairwise_cons.1 hp.2.1).2, fun x hx y hy => hp.2.2 x hx y (List.mem_cons_of_mem _ hy)⟩
      · intro x
        have hm := hrem x
        simp only [List.mem_append, List.mem_cons] at hm ⊢
        by_cases hxi : x = i
        · subst hxi
          constructor
          · rintro (h | h)
            · exact absurd h hiu
            · exact absurd h hiv
          · rintro ⟨_, h⟩
            have hxs : x < listed.size := by omega
            simp [Array.getD, hxs] at h
        · rw [getD_set_ne true (Ne.symm hxi), ← hm]
          constructor
          · rintro (h | h)
            · exact .inl h
            · exact .inr (.inr h)
          · rintro (h | h | h)
            · exact .inl h
            · exact absurd h hxi
            · exact .inr h
      · intro j hj o' ho' e he hb
        by_cases hji : j = i
        · subst hji
          rw [hol] at ho'; obtain rfl : o = o' := by simpa using ho'
          exact getD_set_true (hdeps e (by simpa using he) hb)
        · rw [getD_set_ne false (Ne.symm hji)] at hj
          exact getD_set_true (hcl j hj o' ho' e he hb)
      · exact htr.trans r3 (by omega) (fun _ h => h) (fun j hj => hW i j hj))
     unfold wpOp
     simp only [ho]
     by_cases hw : Region.wanted o (yielded ops a.tmps) = true
     · rw [if_pos hw] at k ⊢
       exact .inl k
     · rw [if_neg hw] at k ⊢
       exact k
theorem free_spec {ops : Array Oper} {tr : List Foot} (h : free ops ops.toList tr = true) (hlen : tr.length = ops.size) :
 (∀ i x, i < ops.size → x < i → behind ops.toList ops.toList.length i x = true ∨ Free2 ops (fun x => tr.getD x ([], [])) x i) ∧
 (∀ i o, ops.toList[i]? = some o → ∀ e ∈ o.after.toList, Region.binds .any e = true → e.on < i) := by
 unfold free at h
 simp only [List.all_eq_true, List.mem_range, Bool.and_eq_true] at h
 refine ⟨fun i x hi hx => ?_, fun i o ho e he hb => ?_⟩
 · have h1 := (h i (by simpa using hi)).2 x hx
   simp only [Bool.or_eq_true] at h1
   rcases h1 with h1 | h1
   · exact .inl h1
   · right
     split at h1
     · rename_i oi ox fi fx a1 a2 a3 a4
       simp only [Bool.and_eq_true, Bool.not_eq_true'] at h1
       refine ⟨by omega, ox, oi, a2, a1, h1.1, ?_⟩
       simp only [List.getD_eq_getElem?_getD, a3, a4, Option.getD_some]
       exact h1.2
     · cases h1
 · have hi : i < ops.toList.length := by
    rcases Nat.lt_or_ge i ops.toList.length with h' | h'
    · exact h'
    · rw [List.getElem?_eq_none h'] at ho; cases ho
   have h1 := (h i hi).1
   rw [ho] at h1
   simp only [Option.map_some, Option.getD_some, List.all_eq_true, Bool.or_eq_true, Bool.not_eq_true'] at h1
   rcases h1 e he with h2 | h2
   · rw [hb] at h2; cases h2
   · simpa [Nat.blt_eq] using h2
theorem Steps.none {Γ : FuncId → Option Ctr} {ops : Array Oper} {base : Nat} {F : Nat → Foot} {A' : AS} {n : Nat} : ∀ (l : List Nat) (A : AS), (∀ i ∈ l, i < n) → Steps P Γ ops base F l A A' → (∀ j, base + n ≤ j → A.bl j = none) → ∀ j, base + n ≤ j → A'.bl j = none
 | [], A, _, h, h0 => by obtain rfl : A = A' := h; exact h0
 | i :: r, A, hl, h, h0 => by
   obtain ⟨A1, ⟨o, _, hs⟩, hr⟩ := h
   refine Steps.none r A1 (fun x hx => hl x (List.mem_cons_of_mem _ hx)) hr (fun j hj => ?_)
   obtain ⟨D, st, rfl, _⟩ := step_iff.1 hs
   have hi := hl i (by simp)
   have hj0 := h0 j hj
   have tr := applyE_tr (nx := base + i) st.fresh (Nat.le_refl _) D.E (β := fun _ => ⟨0, 0, 0, 0, false⟩) (β' := fun _ => ⟨0, 0, 0, 0, false⟩) (fun _ _ => rfl)
   show applyE A.bl (base + i) D.E j = Option.none
   rw [applyE_U]
   have hne : j ≠ base + i := by omega
   have h1 : U (wrU D.E) A.bl j = Option.none := by
    unfold U
    cases hw : wrU D.E with
    | none => exact hj0
    | some p =>
      obtain ⟨k, G⟩ := p
      simp only []
      split
      · unfold wrU at hw
        cases hw' : D.E.wr with
        | none => simp [hw'] at hw
        | some q => obtain ⟨a, b, c, d⟩ := q; simp [hw'] at hw; rw [← hw.2, hj0]; rfl
      · exact hj0
   unfold U at h1 ⊢
   cases hw : nwU (base + i) D.E with
   | none => exact h1
   | some p =>
     obtain ⟨k, G⟩ := p
     have := nwU_mem hw
     simp only []
     rw [if_neg (by omega)]
     exact h1
theorem opsD_sound {Γ : FuncId → Option Ctr} (hΓ : GamOK P W0 Γ) (hmx : P.follows .mixedOrders = true) {ops : Array Oper} {rid : Nat} {A : AS} {a : Act} {w : World} {β : Nat → Loc} {K : AS → List Foot → Prop}
 (h : opsD P Γ ops A.nx ops.toList 0 A [] fun A' tr => needB (free ops ops.toList tr) (K A' tr)) (hfr : FR β A a) (hbc : BC W0 A.bl β w) {Q : Exit → Act → World → Prop}
 (hQ : ∀ A' tr a' w' β', K A' tr → FR β' A' a' → BC W0 A'.bl β' w' → Tr A.bl A.nx (foots tr) β A'.bl β' → A'.nx = A.nx → A'.wl = A.wl → A'.nt = A.nt → ((∀ j, A.nx + ops.size ≤ j → A.bl j = none) → ∀ j, A.nx + ops.size ≤ j → A'.bl j = none) → Q .normal a' w') : (Code.region rid ops true).wp P Q a w := by
 obtain ⟨A', trs, h1, h2, h3⟩ := opsD_steps ops.toList 0 A [] (fun j => by simp) h
 simp only [List.reverse_nil, List.nil_append] at h2
 obtain ⟨hf, hK⟩ := needB_iff.1 h2
 obtain ⟨f1, f2⟩ := free_spec hf (by simpa using h1)
 refine wp_region_any hmx ?_
 have hbd : Below w.heap.size w { w with drawn := w.drawn + 1 } := (Below.refl _ _).drew
 have hfoot : ∀ (l : List Foot) (i : Nat), ∀ j ∈ (l.getD i ([], [])).2, j ∈ foots l := by
  intro l
  induction l with
  | nil => intro i j hj; simp at hj
  | cons f l ih =>
    intro i j hj
    cases i with
    | zero => simp at hj; simp [foots, hj]
    | succ i => simp only [foots, List.mem_append]; right; exact ih i j (by simpa using hj)
 refine wpAny_steps hΓ (base := A.nx) (F := fun x => trs.getD x ([], [])) (A' := A') f1 f2 (W := foots trs) (hfoot trs) (A0 := A) (β0 := β) rfl
  (fun a' w' β' r1 r2 r3 r4 r5 r6 => hQ A' trs a' w' β' hK r1 r2 r3 r4 r5 r6 (Steps.none _ A (fun i hi => by simp [List.mem_range'_1] at hi; exact hi) h3)) ops.size _ (List.range' 0 ops.toList.length) A a _ β (by simp) (by simp) ?_ ?_ ?_ ?_ hfr (hbc.step hbd) (Tr.refl _ _ _ _) rfl rfl rfl
 · exact List.pairwise_lt_range'
 · intro x
   simp only [List.mem_range'_1]
   simp [Array.getD]
 · intro i hi
   exfalso
   simp [Array.getD] at hi
 · simpa using h3
end
end Go.Sy
