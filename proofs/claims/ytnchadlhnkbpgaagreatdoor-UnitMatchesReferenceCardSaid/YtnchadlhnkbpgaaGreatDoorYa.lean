/- Aids for the claim: texts PL of the work, joined. -/
import Derived.Lib.ItoaNum
import Derived.Laws.Strings
import Derived.Lib.Atoi
set_option linter.unusedVariables false
set_option linter.unusedSimpArgs false
namespace Yk
open Go
def dig (c : UInt8) : Bool := 48 ≤ c && c ≤ 57
theorem dig_iff (c : UInt8) : dig c = true ↔ 48 ≤ c.toNat ∧ c.toNat ≤ 57 := by
  simp [dig, UInt8.le_iff_toNat_le]
def body (l : List UInt8) : List UInt8 := if l.head? = some 45 then l.tail else l
def vld (l : List UInt8) : Bool :=
  decide (body l ≠ []) && decide ((body l).length ≤ 200) && (body l).all dig && (decide (l = [48]) || decide ((body l).head? ≠ some 48))
theorem ba_at (s : ByteArray) (i : Nat) (h : i < s.size) : s.data.toList[i]? = some s[i] := by
  rw [Array.getElem?_toList]
  exact Array.getElem?_eq_getElem h
theorem ba_len (s : ByteArray) : s.data.toList.length = s.size := by simp
theorem ba_tail (s : ByteArray) : (s.extract 1 s.size).data.toList = s.data.toList.tail := by
  rw [ByteArray.data_extract]
  simp
  rw [List.take_of_length_le (by simp)]
theorem ba_ext {a b : ByteArray} (h : a.data.toList = b.data.toList) : a = b := by
  cases a; cases b; simp at h; simp [h]
theorem ba_toList (s : ByteArray) : s.toList = s.data.toList := by
  exact ByteArray.toList_eq s
theorem vld_digits {l : List UInt8} (h : vld l = true) : ∀ (i : Nat) c, (body l)[i]? = some c → 48 ≤ c.toNat ∧ c.toNat ≤ 57 := by
  intro i c hc
  simp only [vld, Bool.and_eq_true, List.all_eq_true] at h
  exact (dig_iff c).1 (h.1.2 c (List.mem_of_getElem? hc))
theorem vld_not_digit {l : List UInt8} {i : Nat} {c : UInt8} (hc : (body l)[i]? = some c) (h : c.toNat < 48 ∨ 57 < c.toNat) : vld l = false := by
  cases hv : vld l with
  | false => rfl
  | true => have := vld_digits hv i c hc; omega
theorem vld_empty {l : List UInt8} (h : body l = []) : vld l = false := by simp [vld, h]
theorem vld_long {l : List UInt8} (h : 200 < (body l).length) : vld l = false := by
  simp [vld]; omega
theorem vld_rest {l : List UInt8} (h0 : body l ≠ []) (h1 : (body l).length ≤ 200) (h2 : ∀ (i : Nat) c, (body l)[i]? = some c → 48 ≤ c.toNat ∧ c.toNat ≤ 57) :
    vld l = (decide (l = [48]) || decide ((body l).head? ≠ some 48)) := by
  have h3 : (body l).all dig = true := by
    rw [List.all_eq_true]
    intro c hc
    obtain ⟨i, hi⟩ := List.getElem?_of_mem hc
    exact (dig_iff c).2 (h2 i c hi)
  simp [vld, h0, h1, h3]
theorem body_neg {l : List UInt8} (h : l.head? = some 45) : body l = l.tail := by simp [body, h]
theorem body_pos {l : List UInt8} (h : l.head? ≠ some 45) : body l = l := by simp [body, h]
end Yk
namespace Yk
def val (B : Nat) : List Nat → Nat
  | [] => 0
  | d :: t => d + B * val B t
theorem val_append (B : Nat) (l m : List Nat) : val B (l ++ m) = val B l + B ^ l.length * val B m := by
  induction l with
  | nil => simp [val]
  | cons d t ih => simp only [List.cons_append, val, ih, List.length_cons, Nat.pow_succ, Nat.mul_add]; rw [Nat.mul_comm (B ^ t.length) B, Nat.mul_assoc]; omega
theorem val_snoc (B : Nat) (l : List Nat) (d : Nat) : val B (l ++ [d]) = val B l + B ^ l.length * d := by
  rw [val_append]; simp [val]
theorem val_lt {B : Nat} : ∀ {l : List Nat}, (∀ d ∈ l, d < B) → val B l < B ^ l.length
  | [], _ => by simp [val]
  | d :: t, h => by
    have h1 := h d (by simp)
    have h2 := val_lt (B := B) (l := t) (fun x hx => h x (by simp [hx]))
    simp only [val, List.length_cons, Nat.pow_succ]
    have h3 : B * (val B t + 1) ≤ B * B ^ t.length := Nat.mul_le_mul_left B h2
    rw [Nat.mul_add] at h3
    rw [Nat.mul_comm (B ^ t.length) B]
    omega
def digs (B n : Nat) : List Nat := if h : n = 0 ∨ B < 2 then [] else n % B :: digs B (n / B)
termination_by n
decreasing_by exact Nat.div_lt_self (by omega) (by omega)
theorem digs_zero (B : Nat) : digs B 0 = [] := by rw [digs]; simp
theorem digs_pos {B n : Nat} (hB : 2 ≤ B) (h : n ≠ 0) : digs B n = n % B :: digs B (n / B) := by
  rw [digs, dif_neg (by omega)]
theorem val_digs {B : Nat} (hB : 2 ≤ B) (n : Nat) : val B (digs B n) = n := by
  induction n using Nat.strongRecOn with
  | _ n ih =>
    by_cases h : n = 0
    · rw [h, digs_zero]; rfl
    · rw [digs_pos hB h, val, ih (n / B) (Nat.div_lt_self (by omega) (by omega))]
      exact Nat.mod_add_div n B
theorem digs_lt {B : Nat} (hB : 2 ≤ B) (n : Nat) : ∀ d ∈ digs B n, d < B := by
  induction n using Nat.strongRecOn with
  | _ n ih =>
    by_cases h : n = 0
    · rw [h, digs_zero]; simp
    · rw [digs_pos hB h]
      intro d hd
      rcases List.mem_cons.1 hd with rfl | hd
      · exact Nat.mod_lt _ (by omega)
      · exact ih (n / B) (Nat.div_lt_self (by omega) (by omega)) d hd
def Canon (B : Nat) (l : List Nat) : Prop := (∀ d ∈ l, d < B) ∧ l.getLast? ≠ some 0
theorem digs_eq_nil {B n : Nat} (hB : 2 ≤ B) : digs B n = [] ↔ n = 0 := by
  constructor
  · intro h; have := val_digs hB n; rw [h] at this; exact this.symm
  · rintro rfl; exact digs_zero B
theorem digs_last {B : Nat} (hB : 2 ≤ B) (n : Nat) : (digs B n).getLast? ≠ some 0 := by
  induction n using Nat.strongRecOn with
  | _ n ih =>
    by_cases h : n = 0
    · rw [h, digs_zero]; simp
    · rw [digs_pos hB h]
      by_cases h2 : n / B = 0
      · rw [h2, digs_zero]
        have : n % B = n := by rw [Nat.div_eq_zero_iff] at h2; exact Nat.mod_eq_of_lt (by omega)
        simp [this, h]
      · have h3 := ih (n / B) (Nat.div_lt_self (by omega) (by omega))
        rw [List.getLast?_cons]
        cases hd : digs B (n / B) with
        | nil => rw [digs_eq_nil hB] at hd; exact absurd hd h2
        | cons a t => rw [hd] at h3; simpa [List.getLast?_cons] using h3
theorem val_pos_of_canon {B : Nat} (hB : 2 ≤ B) : ∀ {l : List Nat}, l ≠ [] → l.getLast? ≠ some 0 → 0 < val B l
  | [], h, _ => absurd rfl h
  | [d], _, h => by simp at h; simp [val]; omega
  | d :: e :: t, _, h => by
    have h2 := val_pos_of_canon hB (l := e :: t) (by simp) (by simpa [List.getLast?_cons] using h)
    rw [val]
    have : 0 < B * val B (e :: t) := Nat.mul_pos (by omega) h2
    omega
theorem digs_val {B : Nat} (hB : 2 ≤ B) : ∀ {l : List Nat}, Canon B l → digs B (val B l) = l
  | [], _ => digs_zero B
  | d :: t, h => by
    have hd := h.1 d (by simp)
    have ht : Canon B t := ⟨fun x hx => h.1 x (by simp [hx]), by
      cases t with
      | nil => simp
      | cons a u => simpa [List.getLast?_cons] using h.2⟩
    have hp : val B (d :: t) ≠ 0 := by have := val_pos_of_canon hB (l := d :: t) (by simp) h.2; omega
    rw [digs_pos hB hp, val, Nat.add_mul_mod_self_left, Nat.mod_eq_of_lt hd, Nat.add_mul_div_left _ _ (by omega), Nat.div_eq_of_lt hd, Nat.zero_add, digs_val hB ht]
theorem canon_eq {B : Nat} (hB : 2 ≤ B) {l : List Nat} (h : Canon B l) {n : Nat} (hv : val B l = n) : l = digs B n := by
  rw [← hv, digs_val hB h]
theorem digs_length_le {B : Nat} (hB : 2 ≤ B) (n k : Nat) : (digs B n).length ≤ k ↔ n < B ^ k := by
  induction k generalizing n with
  | zero => simp [digs_eq_nil hB]
  | succ k ih =>
    by_cases h : n = 0
    · rw [h, digs_zero]; simp; exact Nat.pow_pos (by omega)
    · rw [digs_pos hB h, List.length_cons, Nat.succ_le_succ_iff, ih, Nat.pow_succ]
      exact Nat.div_lt_iff_lt_mul (by omega)
theorem digs_digit {B : Nat} (hB : 2 ≤ B) {d : Nat} (h : d < B) (h0 : d ≠ 0) : digs B d = [d] := by
  rw [digs_pos hB h0, Nat.mod_eq_of_lt h, Nat.div_eq_of_lt h, digs_zero]
theorem digs_shift {B : Nat} (hB : 2 ≤ B) {d n : Nat} (h : d < B) (h0 : d + B * n ≠ 0) : digs B (d + B * n) = d :: digs B n := by
  rw [digs_pos hB h0, Nat.add_mul_mod_self_left, Nat.mod_eq_of_lt h, Nat.add_mul_div_left _ _ (by omega), Nat.div_eq_of_lt h, Nat.zero_add]
def trimZ (l : List Nat) : List Nat := if l.getLast? = some 0 then trimZ l.dropLast else l
termination_by l.length
decreasing_by
  rename_i h
  cases l with
  | nil => simp at h
  | cons a t => simp
theorem val_trimZ (B : Nat) (l : List Nat) : val B (trimZ l) = val B l := by
  induction h : l.length using Nat.strongRecOn generalizing l with
  | _ n ih =>
    rw [trimZ]
    split
    · rename_i h0
      obtain ⟨hne, h1⟩ := List.getLast?_eq_some_iff.1 h0
      have hl : l = l.dropLast ++ [0] := by
        conv => lhs; rw [h1]
        rw [h1]; simp
      rw [ih l.dropLast.length (by rw [hl] at h ⊢; simp at h ⊢; omega) l.dropLast rfl]
      conv => rhs; rw [hl]
      rw [val_snoc]; simp
    · rfl
theorem trimZ_canon {B : Nat} (l : List Nat) (h : ∀ d ∈ l, d < B) : Canon B (trimZ l) := by
  induction hn : l.length using Nat.strongRecOn generalizing l with
  | _ n ih =>
    rw [trimZ]
    split
    · rename_i h0
      refine ih l.dropLast.length ?_ l.dropLast (fun d hd => h d ((List.dropLast_sublist l).subset hd)) rfl
      cases l with
      | nil => simp at h0
      | cons a t => simp at hn ⊢; omega
    · rename_i h0; exact ⟨h, h0⟩
theorem trimZ_eq {B : Nat} (hB : 2 ≤ B) (l : List Nat) (h : ∀ d ∈ l, d < B) : trimZ l = digs B (val B l) := by
  rw [← val_trimZ B l]; exact (digs_val hB (trimZ_canon l h)).symm
end Yk
namespace Yk
theorem val_split (B : Nat) (l : List Nat) (i : Nat) (h : i < l.length) : val B l = val B (l.take i) + B ^ i * (l[i] + B * val B (l.drop (i + 1))) := by
  conv => lhs; rw [← List.take_append_drop i l]
  rw [val_append, List.length_take, Nat.min_eq_left (by omega), List.drop_eq_getElem_cons h]
  rfl
theorem val_less {B : Nat} {l m : List Nat} {i : Nat} (hl : i < l.length) (hm : i < m.length) (hd : ∀ d ∈ l, d < B) (h1 : l.drop (i + 1) = m.drop (i + 1)) (h2 : l[i] < m[i]) : val B l < val B m := by
  rw [val_split B l i hl, val_split B m i hm, h1]
  have h3 := val_lt (B := B) (l := l.take i) (fun d h => hd d (List.mem_of_mem_take h))
  rw [List.length_take, Nat.min_eq_left (by omega)] at h3
  generalize B * val B (m.drop (i + 1)) = r at *
  have h4 : B ^ i * (l[i] + r + 1) ≤ B ^ i * (m[i] + r) := Nat.mul_le_mul_left _ (by omega)
  rw [Nat.mul_add] at h4
  omega
theorem digs_len_lt {B : Nat} (hB : 2 ≤ B) {x y : Nat} (h : (digs B x).length < (digs B y).length) : x < y := by
  have h1 := (digs_length_le hB x (digs B x).length).1 (Nat.le_refl _)
  have h2 := mt (digs_length_le hB y (digs B x).length).2 (by omega)
  omega
theorem digs_less {B : Nat} (hB : 2 ≤ B) {x y i : Nat} (hl : i < (digs B x).length) (hm : i < (digs B y).length) (h1 : (digs B x).drop (i + 1) = (digs B y).drop (i + 1)) (h2 : (digs B x)[i] < (digs B y)[i]) : x < y := by
  have := val_less hl hm (digs_lt hB x) h1 h2
  rwa [val_digs hB, val_digs hB] at this
theorem digs_inj {B : Nat} (hB : 2 ≤ B) {x y : Nat} (h : digs B x = digs B y) : x = y := by rw [← val_digs hB x, h, val_digs hB]
def cmpN (x y : Nat) : Int := if x < y then -1 else if y < x then 1 else 0
theorem cmpN_lt {x y : Nat} (h : x < y) : cmpN x y = -1 := by simp [cmpN, h]
theorem cmpN_gt {x y : Nat} (h : y < x) : cmpN x y = 1 := by have : ¬ x < y := by omega
                                                             simp [cmpN, h, this]
theorem cmpN_eq {x y : Nat} (h : x = y) : cmpN x y = 0 := by subst h; simp [cmpN]
theorem drop_step {l m : List Nat} {i : Nat} (hl : i < l.length) (hm : i < m.length) (h1 : l.drop (i + 1) = m.drop (i + 1)) (h2 : l[i] = m[i]) : l.drop i = m.drop i := by
  rw [List.drop_eq_getElem_cons hl, List.drop_eq_getElem_cons hm, h1, h2]
end Yk
namespace Yk
theorem trimZ_zero {l : List Nat} {k : Nat} (h : k < l.length) (h0 : l[k] = 0) : trimZ (l.take (k + 1)) = trimZ (l.take k) := by
  have e : l.take (k + 1) = l.take k ++ [0] := by rw [List.take_add_one, List.getElem?_eq_getElem h, h0]; rfl
  rw [e, trimZ, if_pos (by simp)]
  simp
theorem trimZ_stop {l : List Nat} {k : Nat} (h : k < l.length) (h0 : l[k] ≠ 0) : trimZ (l.take (k + 1)) = l.take (k + 1) := by
  have e : l.take (k + 1) = l.take k ++ [l[k]] := by rw [List.take_add_one, List.getElem?_eq_getElem h]; rfl
  rw [e, trimZ, if_neg (by rw [List.getLast?_concat]; simpa using h0)]
theorem trimZ_nil : trimZ [] = [] := by rw [trimZ]; simp
end Yk
namespace Yk
open Go
def dv (c : UInt8) : Nat := c.toNat - 48
def nat10 (l : List UInt8) : Nat := val 10 (l.reverse.map dv)
def negB (l : List UInt8) : Bool := decide (l.head? = some 45)
def toI (l : List UInt8) : Int := if l.head? = some 45 then -(nat10 (body l) : Int) else nat10 (body l)
theorem dv_lt {c : UInt8} (h : dig c = true) : dv c < 10 := by have := (dig_iff c).1 h; unfold dv; omega
theorem vld_parts {l : List UInt8} (h : vld l = true) : body l ≠ [] ∧ (body l).length ≤ 200 ∧ (∀ c ∈ body l, dig c = true) ∧ (l = [48] ∨ (body l).head? ≠ some 48) := by
  simp only [vld, Bool.and_eq_true, Bool.or_eq_true, decide_eq_true_eq, List.all_eq_true] at h
  exact ⟨h.1.1.1, h.1.1.2, h.1.2, h.2⟩
theorem vld_mk {l : List UInt8} (h1 : body l ≠ []) (h2 : (body l).length ≤ 200) (h3 : ∀ c ∈ body l, dig c = true) (h4 : l = [48] ∨ (body l).head? ≠ some 48) : vld l = true := by
  simp only [vld, Bool.and_eq_true, Bool.or_eq_true, decide_eq_true_eq, List.all_eq_true]
  exact ⟨⟨⟨h1, h2⟩, h3⟩, h4⟩
theorem body_ne_zero {l : List UInt8} (h : vld l = true) (h0 : l ≠ [48]) : body l ≠ [48] := by
  intro e
  rcases (vld_parts h).2.2.2 with h1 | h1
  · exact h0 h1
  · rw [e] at h1; simp at h1
theorem digs_text {l : List UInt8} (h : vld l = true) (h0 : l ≠ [48]) : (body l).reverse.map dv = digs 10 (nat10 (body l)) := by
  obtain ⟨h1, h2, h3, h4⟩ := vld_parts h
  refine canon_eq (by decide) ⟨?_, ?_⟩ rfl
  · intro d hd
    obtain ⟨c, hc, rfl⟩ := List.mem_map.1 hd
    exact dv_lt (h3 c (List.mem_reverse.1 hc))
  · rw [List.getLast?_map, List.getLast?_reverse]
    have h5 := h4.resolve_left h0
    cases hb : (body l).head? with
    | none => simp
    | some c =>
      have hd := (dig_iff c).1 (h3 c (List.mem_of_head? hb))
      rw [hb] at h5
      simp only [Option.map_some, ne_eq, Option.some.injEq]
      have : c ≠ 48 := fun e => h5 (by rw [e])
      have h6 : c.toNat ≠ 48 := fun e => this (UInt8.toNat_inj.1 e)
      unfold dv; omega
theorem nat10_lt {l : List UInt8} (h : ∀ c ∈ l, dig c = true) : nat10 l < 10 ^ l.length := by
  have := val_lt (B := 10) (l := l.reverse.map dv) (by
    intro d hd
    obtain ⟨c, hc, rfl⟩ := List.mem_map.1 hd
    exact dv_lt (h c (List.mem_reverse.1 hc)))
  simpa [nat10] using this
def BIG : Nat := 10 ^ 200
theorem toI_lt {l : List UInt8} (h : vld l = true) : (toI l).natAbs < BIG := by
  obtain ⟨h1, h2, h3, h4⟩ := vld_parts h
  have h5 := nat10_lt h3
  have h6 : 10 ^ (body l).length ≤ 10 ^ 200 := Nat.pow_le_pow_right (by decide) h2
  unfold toI BIG
  split <;> omega
theorem toI_abs (l : List UInt8) : (toI l).natAbs = nat10 (body l) := by
  unfold toI; split <;> omega
theorem decDigits_digs (u : Nat) : Lib.decDigits u = if u = 0 then [48] else (digs 10 u).reverse.map (fun d => UInt8.ofNat (48 + d)) := by
  induction u using Nat.strongRecOn with
  | _ u ih =>
    by_cases h : u < 10
    · rw [Lib.decDigits, dif_pos h]
      by_cases h0 : u = 0
      · subst h0; rfl
      · rw [if_neg h0, digs_digit (by decide) h h0]; rfl
    · rw [Lib.decDigits, dif_neg h, ih (u / 10) (by omega), if_neg (by omega), if_neg (by omega), digs_pos (n := u) (by decide) (by omega)]
      simp
theorem ofNat_dv {c : UInt8} (h : dig c = true) : UInt8.ofNat (48 + dv c) = c := by
  have := (dig_iff c).1 h
  apply UInt8.toNat_inj.1
  unfold dv
  simp; omega
theorem dv_ofNat {d : Nat} (h : d < 10) : dv (UInt8.ofNat (48 + d)) = d := by
  unfold dv; simp; omega
theorem dig_ofNat {d : Nat} (h : d < 10) : dig (UInt8.ofNat (48 + d)) = true := by
  rw [dig_iff]; simp; omega
theorem decDigits_all (u : Nat) : ∀ c ∈ Lib.decDigits u, dig c = true := by
  intro c hc
  rw [decDigits_digs] at hc
  split at hc
  · simp at hc; subst hc; rfl
  · obtain ⟨d, hd, rfl⟩ := List.mem_map.1 hc
    exact dig_ofNat (digs_lt (by decide) u d (List.mem_reverse.1 hd))
theorem nat10_decDigits (u : Nat) : nat10 (Lib.decDigits u) = u := by
  rw [decDigits_digs]
  split
  · rename_i h; subst h; rfl
  · unfold nat10
    rw [← List.map_reverse, List.reverse_reverse, List.map_map]
    rw [show (digs 10 u).map (dv ∘ fun d => UInt8.ofNat (48 + d)) = digs 10 u from ?_, val_digs (by decide)]
    conv => rhs; rw [← List.map_id (digs 10 u)]
    exact List.map_congr_left fun d hd => dv_ofNat (digs_lt (by decide) u d hd)
theorem decDigits_ne_nil (u : Nat) : Lib.decDigits u ≠ [] := by
  rw [decDigits_digs]; split
  · simp
  · rename_i h; simp [digs_eq_nil, h]
theorem decDigits_length_le (u k : Nat) (hk : 1 ≤ k) : (Lib.decDigits u).length ≤ k ↔ u < 10 ^ k := by
  rw [decDigits_digs]; split
  · rename_i h; subst h; simp; constructor
    · intro _; exact Nat.pow_pos (by decide)
    · intro _; exact hk
  · simpa using digs_length_le (by decide) u k
theorem decDigits_nat10 {l : List UInt8} (h : vld l = true) : Lib.decDigits (nat10 (body l)) = body l := by
  by_cases h0 : l = [48]
  · subst h0; decide +kernel
  · have h1 := digs_text h h0
    obtain ⟨a1, a2, a3, a4⟩ := vld_parts h
    rw [decDigits_digs, if_neg, ← h1, List.map_reverse, List.map_reverse, List.map_reverse, List.reverse_reverse, List.map_map]
    · conv => rhs; rw [← List.map_id (body l)]
      exact List.map_congr_left fun c hc => ofNat_dv (a3 c hc)
    · intro e
      rw [e, digs_zero] at h1
      exact a1 (by simpa using h1)
theorem decDigits_head (u : Nat) : (Lib.decDigits u).head? = some 48 → u = 0 := by
  rw [decDigits_digs]; split
  · intro _; assumption
  · rename_i h
    intro e
    rw [List.head?_map, List.head?_reverse] at e
    have h1 := digs_last (B := 10) (by decide) u
    cases hl : (digs 10 u).getLast? with
    | none => rw [hl] at e; simp at e
    | some d =>
      rw [hl] at e h1
      have hd := digs_lt (B := 10) (by decide) u d (List.mem_of_getLast? hl)
      simp only [Option.map_some, Option.some.injEq] at e
      have := congrArg UInt8.toNat e
      simp at this
      exfalso; apply h1; congr 1; omega
theorem decDigits_head_ne (u : Nat) : (Lib.decDigits u).head? ≠ some 45 := by
  intro e
  have := decDigits_all u 45 (List.mem_of_head? e)
  exact absurd this (by decide)
theorem itoa_neg {n : Int} (h : n < 0) : Lib.itoa n = 45 :: Lib.decDigits n.natAbs := by simp [Lib.itoa, h]
theorem itoa_pos {n : Int} (h : 0 ≤ n) : Lib.itoa n = Lib.decDigits n.natAbs := by
  have : ¬ n < 0 := by omega
  simp only [Lib.itoa, this, if_false]
  congr 1; omega
theorem body_itoa (n : Int) : body (Lib.itoa n) = Lib.decDigits n.natAbs := by
  by_cases h : n < 0
  · rw [itoa_neg h]; rfl
  · rw [itoa_pos (by omega)]; exact body_pos (decDigits_head_ne _)
theorem itoa_head (n : Int) : (Lib.itoa n).head? = some 45 ↔ n < 0 := by
  by_cases h : n < 0
  · rw [itoa_neg h]; simp [h]
  · rw [itoa_pos (by omega)]; simp only [h, iff_false]; exact decDigits_head_ne _
theorem toI_itoa (n : Int) : toI (Lib.itoa n) = n := by
  unfold toI
  rw [body_itoa, nat10_decDigits]
  by_cases h : n < 0
  · rw [if_pos ((itoa_head n).2 h)]; omega
  · rw [if_neg (fun e => h ((itoa_head n).1 e))]; omega
theorem vld_itoa (n : Int) : vld (Lib.itoa n) = true ↔ n.natAbs < BIG := by
  have hl := decDigits_length_le n.natAbs 200 (by decide)
  constructor
  · intro h
    have := (vld_parts h).2.1
    rw [body_itoa] at this
    exact hl.1 this
  · intro h
    refine vld_mk (by rw [body_itoa]; exact decDigits_ne_nil _) (by rw [body_itoa]; exact hl.2 h) (by rw [body_itoa]; exact decDigits_all _) ?_
    rw [body_itoa]
    by_cases h0 : n = 0
    · left; subst h0; decide +kernel
    · right; intro e; have := decDigits_head _ e; omega
theorem itoa_toI {l : List UInt8} (h : vld l = true) : Lib.itoa (toI l) = l := by
  have h1 := decDigits_nat10 h
  obtain ⟨a1, a2, a3, a4⟩ := vld_parts h
  by_cases hh : l.head? = some 45
  · have hl : l = 45 :: body l := by
      cases l with
      | nil => simp at hh
      | cons c t => simp at hh; subst hh; rfl
    have hne : l ≠ [48] := by intro e; rw [e] at hh; simp at hh
    have hn : nat10 (body l) ≠ 0 := by
      intro e
      rw [e] at h1
      have h2 : body l = [48] := by rw [← h1]; decide +kernel
      exact body_ne_zero h hne h2
    have e : toI l = -(nat10 (body l) : Int) := by simp [toI, hh]
    rw [e, itoa_neg (by omega), show (-(nat10 (body l) : Int)).natAbs = nat10 (body l) by omega, h1]
    exact hl.symm
  · have e : toI l = nat10 (body l) := by simp [toI, hh]
    rw [e, itoa_pos (by omega), show ((nat10 (body l) : Int)).natAbs = nat10 (body l) by omega, h1, body_pos hh]
def ofI (n : Int) : ByteArray := ⟨(Lib.itoa n).toArray⟩
theorem ofI_list (n : Int) : (ofI n).data.toList = Lib.itoa n := by simp [ofI]
theorem vld_ofI {n : Int} (h : n.natAbs < BIG) : vld (ofI n).data.toList = true := by rw [ofI_list]; exact (vld_itoa n).2 h
theorem toI_ofI (n : Int) : toI (ofI n).data.toList = n := by rw [ofI_list, toI_itoa]
end Yk
namespace Yk
theorem val_take_succ (B : Nat) (m : List Nat) (k : Nat) : val B (m.take (k + 1)) = val B (m.take k) + B ^ k * m.getD k 0 := by
  rw [List.take_add_one]
  by_cases hk : k < m.length
  · rw [List.getElem?_eq_getElem hk, Option.toList_some, val_snoc, List.length_take, Nat.min_eq_left (by omega)]
    simp [List.getD, List.getElem?_eq_getElem hk]
  · rw [List.getElem?_eq_none (by omega)]; simp [List.getD, List.getElem?_eq_none (show m.length ≤ k by omega)]
theorem canon_of_ge {B : Nat} {l : List Nat} (h : ∀ d ∈ l, d < B) (h2 : l ≠ [] → B ^ (l.length - 1) ≤ val B l) : Canon B l := by
  refine ⟨h, fun e => ?_⟩
  obtain ⟨hne, h1⟩ := List.getLast?_eq_some_iff.1 e
  rw [h1] at h2 h
  have h3 := h2 (by simp)
  rw [val_snoc] at h3
  have h4 := val_lt (B := B) (l := hne) (fun d hd => h d (by simp [hd]))
  simp at h3
  omega
theorem digs_ge {B : Nat} (hB : 2 ≤ B) {n : Nat} (h : digs B n ≠ []) : B ^ ((digs B n).length - 1) ≤ n := by
  have h1 := mt (digs_length_le hB n ((digs B n).length - 1)).2 (by have := List.length_pos_iff.2 h; omega)
  omega
theorem sum_step {B : Nat} {l a b : List Nat} {c k : Nat} (h : val B l + B ^ k * c = val B (a.take k) + val B (b.take k)) (hl : l.length = k) :
    val B (l ++ [(c + a.getD k 0 + b.getD k 0) % B]) + B ^ (k + 1) * ((c + a.getD k 0 + b.getD k 0) / B) = val B (a.take (k + 1)) + val B (b.take (k + 1)) := by
  rw [val_snoc, hl, val_take_succ, val_take_succ, Nat.pow_succ]
  have e : B ^ k * ((c + a.getD k 0 + b.getD k 0) % B) + B ^ k * B * ((c + a.getD k 0 + b.getD k 0) / B) = B ^ k * c + B ^ k * a.getD k 0 + B ^ k * b.getD k 0 := by
    rw [Nat.mul_assoc, ← Nat.mul_add, ← Nat.mul_add, ← Nat.mul_add, Nat.mod_add_div]
  omega
theorem digs_getD_lt {B : Nat} (hB : 2 ≤ B) (n k : Nat) : (digs B n).getD k 0 < B := by
  by_cases hk : k < (digs B n).length
  · rw [List.getD, List.getElem?_eq_getElem hk]; exact digs_lt hB n _ (List.getElem_mem hk)
  · rw [List.getD, List.getElem?_eq_none (by omega)]; simp; omega
theorem sum_end {B : Nat} (hB : 2 ≤ B) {l : List Nat} {x y k : Nat} (h : val B l + B ^ k * 0 = val B ((digs B x).take k) + val B ((digs B y).take k)) (hl : l.length = k) (hd : ∀ d ∈ l, d < B)
    (h1 : (digs B x).length ≤ k) (h2 : (digs B y).length ≤ k) (h3 : k ≤ (digs B x).length ∨ k ≤ (digs B y).length ∨ l.getLast? ≠ some 0) : l = digs B (x + y) := by
  rw [List.take_of_length_le h1, List.take_of_length_le h2, val_digs hB, val_digs hB, Nat.mul_zero, Nat.add_zero] at h
  rcases h3 with h3 | h3 | h3
  · refine canon_eq hB (canon_of_ge hd fun hne => ?_) h
    have := digs_ge hB (n := x) (by intro e; rw [e] at h3; simp at h3; subst h3; exact hne (List.eq_nil_of_length_eq_zero hl))
    rw [hl, h, show k = (digs B x).length by omega]; omega
  · refine canon_eq hB (canon_of_ge hd fun hne => ?_) h
    have := digs_ge hB (n := y) (by intro e; rw [e] at h3; simp at h3; subst h3; exact hne (List.eq_nil_of_length_eq_zero hl))
    rw [hl, h, show k = (digs B y).length by omega]; omega
  · exact canon_eq hB ⟨hd, h3⟩ h
theorem diff_step {B : Nat} (hB : 2 ≤ B) {l a b : List Nat} {c k : Nat} (h : val B l + val B (b.take k) + 0 = val B (a.take k) + B ^ k * c) (hl : l.length = k) (hc : c ≤ 1) (ha : a.getD k 0 < B) (hb : b.getD k 0 < B)
    {d c' : Nat} (h1 : a.getD k 0 + B * c' = d + c + b.getD k 0) :
    val B (l ++ [d]) + val B (b.take (k + 1)) + 0 = val B (a.take (k + 1)) + B ^ (k + 1) * c' := by
  rw [val_snoc, hl, val_take_succ, val_take_succ, Nat.pow_succ]
  have e : B ^ k * a.getD k 0 + B ^ k * B * c' = B ^ k * d + B ^ k * c + B ^ k * b.getD k 0 := by
    rw [Nat.mul_assoc, ← Nat.mul_add, ← Nat.mul_add, ← Nat.mul_add, h1]
  omega
end Yk
namespace Yk
theorem val_set (B : Nat) : ∀ (l : List Nat) (j d : Nat) (h : j < l.length), val B (l.set j d) + B ^ j * l[j] = val B l + B ^ j * d
  | a :: t, 0, d, _ => by simp [val]; omega
  | a :: t, j + 1, d, h => by
    have h' : j < t.length := by simpa using h
    have ih := val_set B t j d h'
    simp only [List.set_cons_succ, val, List.getElem_cons_succ, Nat.pow_succ]
    have e1 : B ^ j * B * t[j] = B * (B ^ j * t[j]) := by rw [Nat.mul_comm (B ^ j) B, Nat.mul_assoc]
    have e2 : B ^ j * B * d = B * (B ^ j * d) := by rw [Nat.mul_comm (B ^ j) B, Nat.mul_assoc]
    have e3 : B * (val B (t.set j d) + B ^ j * t[j]) = B * (val B t + B ^ j * d) := by rw [ih]
    rw [Nat.mul_add, Nat.mul_add] at e3
    omega
theorem val_ge_at (B : Nat) (l : List Nat) (j : Nat) (h : j < l.length) : B ^ j * l[j] ≤ val B l := by
  rw [val_split B l j h, Nat.mul_add]; omega
theorem mul_step {B : Nat} {o : List Nat} {X j c ab : Nat} (h : j < o.length) (hv : val B o + B ^ j * c = X) :
    val B (o.set j ((o[j] + c + ab) % B)) + B ^ (j + 1) * ((o[j] + c + ab) / B) = X + B ^ j * ab := by
  have h1 := val_set B o j ((o[j] + c + ab) % B) h
  have e : B ^ j * ((o[j] + c + ab) % B) + B ^ j * B * ((o[j] + c + ab) / B) = B ^ j * o[j] + B ^ j * c + B ^ j * ab := by
    rw [Nat.mul_assoc, ← Nat.mul_add, ← Nat.mul_add, ← Nat.mul_add, Nat.mod_add_div]
  rw [Nat.pow_succ]
  omega
theorem mul_last {B : Nat} {o : List Nat} {X j c : Nat} (hB : 1 ≤ B) (h : j < o.length) (hv : val B o + B ^ j * c = X) (hX : X < B ^ (j + 1)) : o[j] + c < B := by
  have h1 := val_ge_at B o j h
  rw [Nat.pow_succ] at hX
  have h2 : B ^ j * (o[j] + c) < B ^ j * B := by rw [Nat.mul_add]; omega
  exact Nat.lt_of_mul_lt_mul_left h2
theorem mul_bound {B i lb : Nat} {a b : List Nat} (ha : ∀ d ∈ a, d < B) (hb : ∀ d ∈ b, d < B) (hlb : b.length = lb) (hi : i < a.length) :
    val B (a.take (i + 1)) * val B b < B ^ (i + lb + 1) := by
  have h1 := val_lt (B := B) (l := a.take (i + 1)) (fun d h => ha d (List.mem_of_mem_take h))
  have h2 := val_lt (B := B) hb
  rw [List.length_take, Nat.min_eq_left (by omega)] at h1
  rw [hlb] at h2
  rw [show i + lb + 1 = (i + 1) + lb by omega, Nat.pow_add]
  exact Nat.mul_lt_mul'' h1 h2
theorem val_replicate_zero (B n : Nat) : val B (List.replicate n 0) = 0 := by
  induction n with
  | zero => rfl
  | succ n ih => simp [List.replicate_succ, val, ih]
end Yk
namespace Yk
def DivInv (B x y j R : Nat) (q : List Nat) : Prop :=
  ∃ qs : List Nat, q = List.replicate j 0 ++ qs ∧ qs.length + j = (digs B x).length ∧ (∀ d ∈ qs, d < B) ∧ val B qs * y + R = val B ((digs B x).drop j) ∧ R < y
theorem DivInv.start {B x y : Nat} (hy : 0 < y) : DivInv B x y (digs B x).length 0 (List.replicate (digs B x).length 0) :=
  ⟨[], by simp, by simp, by simp, by rw [List.drop_of_length_le (Nat.le_refl _)]; simp [val], hy⟩
theorem DivInv.step {B x y j R R2 t d : Nat} {q : List Nat} (h : DivInv B x y (j + 1) R q) (hj : j < (digs B x).length) (hd : (digs B x)[j] = d) (h1 : R2 + t * y = d + B * R) (h2 : R2 < y) (h3 : t < B) :
    DivInv B x y j R2 (q.set j t) := by
  obtain ⟨qs, rfl, hl, hq, hv, hR⟩ := h
  refine ⟨t :: qs, ?_, by simp; omega, ?_, ?_, h2⟩
  · rw [List.replicate_succ', List.append_assoc, List.set_append_right _ _ (by simp)]
    simp
  · intro z hz
    rcases List.mem_cons.1 hz with rfl | hz
    · exact h3
    · exact hq z hz
  · rw [List.drop_eq_getElem_cons hj, val, val, hd, ← hv, Nat.mul_add, Nat.add_mul, Nat.mul_assoc]
    omega
theorem DivInv.done {B x y R : Nat} (hB : 2 ≤ B) {q : List Nat} (h : DivInv B x y 0 R q) : val B q = x / y ∧ R = x % y := by
  obtain ⟨qs, rfl, hl, hq, hv, hR⟩ := h
  simp only [List.replicate_zero, List.nil_append, List.drop_zero] at *
  rw [val_digs hB] at hv
  rw [← hv]
  constructor
  · rw [Nat.mul_comm, Nat.add_comm, Nat.add_mul_div_left _ _ (by omega), Nat.div_eq_of_lt hR, Nat.zero_add]
  · rw [Nat.mul_comm, Nat.add_comm, Nat.add_mul_mod_self_left, Nat.mod_eq_of_lt hR]
theorem DivInv.digits {B x y j R : Nat} (hB : 2 ≤ B) {q : List Nat} (h : DivInv B x y j R q) : ∀ d ∈ q, d < B := by
  obtain ⟨qs, rfl, hl, hq, hv, hR⟩ := h
  intro d hd
  rcases List.mem_append.1 hd with h | h
  · have := (List.mem_replicate.1 h).2; omega
  · exact hq d h
theorem DivInv.length {B x y j R : Nat} {q : List Nat} (h : DivInv B x y j R q) : q.length = (digs B x).length := by
  obtain ⟨qs, rfl, hl, _⟩ := h
  simp; omega
theorem DivInv.zero {B x y j R : Nat} {q : List Nat} (h : DivInv B x y (j + 1) R q) (hj : j < q.length) : q[j] = 0 := by
  obtain ⟨qs, rfl, hl, _⟩ := h
  rw [List.getElem_append_left (by simp)]
  simp
theorem shift_val {B d R : Nat} (hB : 2 ≤ B) (hd : d < B) : val B ([d] ++ digs B R) = d + B * R := by
  simp [val, val_digs hB]
theorem digs_length_mono {B : Nat} (hB : 2 ≤ B) {x y : Nat} (h : x ≤ y) : (digs B x).length ≤ (digs B y).length := by
  rw [digs_length_le hB]
  exact Nat.lt_of_le_of_lt h ((digs_length_le hB y _).1 (Nat.le_refl _))
theorem digs_length_shift {B : Nat} (hB : 2 ≤ B) {d R y : Nat} (hd : d < B) (hR : R < y) : (digs B (d + B * R)).length ≤ (digs B y).length + 1 := by
  rw [digs_length_le hB, Nat.pow_succ]
  have h1 := (digs_length_le hB y _).1 (Nat.le_refl _)
  have h2 : B * (R + 1) ≤ B * B ^ (digs B y).length := Nat.mul_le_mul_left B (by omega)
  rw [Nat.mul_add] at h2
  rw [Nat.mul_comm (B ^ _) B]
  omega
end Yk
namespace Yk
open Go
theorem nat10_append (l m : List UInt8) : nat10 (l ++ m) = nat10 m + 10 ^ m.length * nat10 l := by
  unfold nat10
  rw [List.reverse_append, List.map_append, val_append, List.length_map, List.length_reverse]
theorem digitVal_dig {c : UInt8} (h : dig c = true) : Lib.digitVal c = some (dv c) := by
  have h2 := (dig_iff c).1 h
  unfold Lib.digitVal dv
  first
    | (simp only []; rw [if_pos (by simp; omega)])
    | (split <;> simp_all)
theorem decFrom_digits : ∀ (l : List UInt8) (acc : Nat), (∀ c ∈ l, dig c = true) → Lib.decFrom acc l = some (acc * 10 ^ l.length + nat10 l)
  | [], acc, _ => by simp [Lib.decFrom, nat10, val]
  | c :: r, acc, h => by
    have hc := digitVal_dig (h c (by simp))
    rw [Lib.decFrom, hc]
    simp only
    rw [decFrom_digits r _ (fun x hx => h x (by simp [hx])), show c :: r = [c] ++ r from rfl, nat10_append, List.length_append, List.length_singleton, Nat.pow_add, Nat.pow_one, Nat.add_mul]
    have : nat10 [c] = dv c := by simp [nat10, val]
    rw [this, Nat.mul_comm (dv c), Nat.mul_assoc]
    congr 1; omega
theorem atoi_digits {l : List UInt8} (h0 : l ≠ []) (h : ∀ c ∈ l, dig c = true) : Lib.atoi l = some (nat10 l : Int) := by
  cases l with
  | nil => exact absurd rfl h0
  | cons c r =>
    have hc := (dig_iff c).1 (h c (by simp))
    have h45 : (c == 45) = false := by
      rw [beq_eq_false_iff_ne]; intro e; subst e; exact absurd hc (by decide)
    have h43 : (c == 43) = false := by
      rw [beq_eq_false_iff_ne]; intro e; subst e; exact absurd hc (by decide)
    rw [Lib.atoi, h45, h43]
    simp only [Bool.false_eq_true, if_false]
    unfold Lib.decNat
    rw [if_neg (by simp), decFrom_digits _ 0 h]
    simp
theorem group_step {l : List UInt8} {L : List Nat} {k : Nat} {T : Nat} (hk : k ≤ l.length) (h : val 10000 L + 10000 ^ L.length * nat10 (l.take k) = T) :
    val 10000 (L ++ [nat10 ((l.take k).drop (k - 4))]) + 10000 ^ (L ++ [nat10 ((l.take k).drop (k - 4))]).length * nat10 (l.take (k - 4)) = T := by
  rw [val_snoc, List.length_append, List.length_singleton, Nat.pow_succ]
  have e : l.take k = l.take (k - 4) ++ (l.take k).drop (k - 4) := by
    conv => lhs; rw [← List.take_append_drop (k - 4) (l.take k)]
    rw [List.take_take, Nat.min_eq_left (by omega)]
  have e2 : nat10 (l.take k) = nat10 ((l.take k).drop (k - 4)) + 10000 * nat10 (l.take (k - 4)) := by
    conv => lhs; rw [e]
    rw [nat10_append]
    by_cases h4 : 4 ≤ k
    · have : ((l.take k).drop (k - 4)).length = 4 := by rw [List.length_drop, List.length_take]; omega
      rw [this]
    · have : k - 4 = 0 := by omega
      rw [this, List.take_zero]; simp [nat10, val]
  rw [e2, Nat.mul_add] at h
  rw [Nat.mul_assoc]
  omega
theorem group_lt {l : List UInt8} {k : Nat} (hk : k ≤ l.length) (hd : ∀ c ∈ l, dig c = true) : nat10 ((l.take k).drop (k - 4)) < 10000 := by
  have h1 := nat10_lt (l := (l.take k).drop (k - 4)) (fun c hc => hd c (List.mem_of_mem_take (List.mem_of_mem_drop hc)))
  have h2 : ((l.take k).drop (k - 4)).length ≤ 4 := by rw [List.length_drop, List.length_take]; omega
  have h3 : 10 ^ ((l.take k).drop (k - 4)).length ≤ 10 ^ 4 := Nat.pow_le_pow_right (by decide) h2
  omega
end Yk
namespace Yk
def digSum (B : Nat) (d : Nat → Int) : Nat → Int
  | 0 => 0
  | k + 1 => digSum B d k + ((B ^ k : Nat) : Int) * d k
theorem fold_step {B : Nat} {d : Nat → Int} {l : List Nat} {k r : Nat} {c c' : Int} (h : (val B l : Int) + ((B ^ k : Nat) : Int) * c = digSum B d k) (hl : l.length = k) (h1 : d k + c = r + B * c') :
    (val B (l ++ [r]) : Int) + ((B ^ (k + 1) : Nat) : Int) * c' = digSum B d (k + 1) := by
  rw [val_snoc, hl, digSum, Nat.pow_succ, Int.natCast_add, Int.natCast_mul, Int.natCast_mul]
  have e : ((B ^ k : Nat) : Int) * (r + B * c') = ((B ^ k : Nat) : Int) * (d k + c) := by rw [h1]
  rw [Int.mul_add, Int.mul_add] at e
  rw [Int.mul_assoc]
  omega
theorem fold_end {B : Nat} {d : Nat → Int} {l : List Nat} {k : Nat} (h : (val B l : Int) + ((B ^ k : Nat) : Int) * 0 = digSum B d k) : (val B l : Int) = digSum B d k := by omega
theorem fold_no_borrow {B : Nat} {d : Nat → Int} {l : List Nat} {k : Nat} (h : (val B l : Int) + ((B ^ k : Nat) : Int) * (-1) = digSum B d k) (hl : l.length = k) (hd : ∀ z ∈ l, z < B) (h0 : 0 ≤ digSum B d k) : False := by
  have := val_lt hd
  rw [hl] at this
  omega
theorem digSum_zero_from {B : Nat} {d : Nat → Int} {n : Nat} (hz : ∀ i, n ≤ i → d i = 0) : ∀ k, n ≤ k → digSum B d k = digSum B d n := by
  intro k hk
  induction k with
  | zero => have : n = 0 := by omega
            subst this; rfl
  | succ k ih =>
    by_cases e : n = k + 1
    · subst e; rfl
    · rw [digSum, ih (by omega), hz k (by omega)]; simp
theorem digSum_getD (B : Nat) (l : List Nat) (k : Nat) : digSum B (fun i => (l.getD i 0 : Int)) k = (val B (l.take k) : Int) := by
  induction k with
  | zero => simp [digSum, val]
  | succ k ih => rw [digSum, ih, val_take_succ, Int.natCast_add, Int.natCast_mul]
theorem digSum_add (B : Nat) (f g : Nat → Int) (k : Nat) : digSum B (fun i => f i + g i) k = digSum B f k + digSum B g k := by
  induction k with
  | zero => rfl
  | succ k ih => rw [digSum, ih, digSum, digSum, Int.mul_add]; omega
theorem digSum_sub (B : Nat) (f g : Nat → Int) (k : Nat) : digSum B (fun i => f i - g i) k = digSum B f k - digSum B g k := by
  induction k with
  | zero => rfl
  | succ k ih => rw [digSum, ih, digSum, digSum, Int.mul_sub]; omega
theorem digSum_mul (B : Nat) (f : Nat → Int) (n : Int) (k : Nat) : digSum B (fun i => f i * n) k = digSum B f k * n := by
  induction k with
  | zero => simp [digSum]
  | succ k ih => rw [digSum, ih, digSum, Int.add_mul, Int.mul_assoc]
end Yk
namespace Yk
def hornerStep (B x : Nat) (a : Nat) (p : Nat × Nat) : Nat := a * B + x * p.2
theorem horner_le {B x : Nat} (hB : 1 ≤ B) (l : List (Nat × Nat)) (h : ∀ p ∈ l, p.2 < B) : l.foldl (hornerStep B x) 0 + x ≤ x * B ^ l.length := by
  induction hl : l.length generalizing l with
  | zero => rw [List.eq_nil_of_length_eq_zero hl]; simp
  | succ k ih =>
    obtain ⟨ini, last, rfl⟩ : ∃ ini last, l = ini ++ [last] := ⟨l.dropLast, l.getLast (by intro e; rw [e] at hl; simp at hl), (List.dropLast_concat_getLast _).symm⟩
    have h1 := ih ini (fun p hp => h p (by simp [hp])) (by simp at hl; omega)
    have h2 := h last (by simp)
    rw [List.foldl_append, List.foldl_cons, List.foldl_nil, hornerStep, Nat.pow_succ]
    generalize ini.foldl (hornerStep B x) 0 = f at *
    have h3 : (f + x) * B ≤ x * B ^ k * B := Nat.mul_le_mul_right B h1
    have h4 : x * (last.2 + 1) ≤ x * B := Nat.mul_le_mul_left x h2
    rw [Nat.mul_add] at h4
    rw [Nat.add_mul] at h3
    rw [← Nat.mul_assoc]
    omega
end Yk
namespace Yk
open Go
abbrev SE := ByteArray × Int
def chkI (n : Int) : SE := if n.natAbs < BIG then (ofI n, 0) else (ByteArray.empty, 30)
def vS (s : ByteArray) : Bool := vld s.data.toList
def nS (s : ByteArray) : Int := toI s.data.toList
def iAdd (a b : ByteArray) : SE := if vS a && vS b then chkI (nS a + nS b) else (ByteArray.empty, 30)
def iSub (a b : ByteArray) : SE := if vS a && vS b then chkI (nS a - nS b) else (ByteArray.empty, 30)
def iMul (a b : ByteArray) : SE := if vS a && vS b then chkI (nS a * nS b) else (ByteArray.empty, 30)
def iDiv (a b : ByteArray) : ByteArray × ByteArray × Int := if vS a && vS b && decide (nS b ≠ 0) then (ofI (nS a / nS b), ofI (nS a % nS b), 0) else (ByteArray.empty, ByteArray.empty, 30)
def iGcd (a b : ByteArray) : SE := if vS a && vS b then (ofI (Int.gcd (nS a) (nS b)), 0) else (ByteArray.empty, 30)
def cmpI (x y : Int) : Int := if x < y then -1 else if y < x then 1 else 0
def iCmp (a b : ByteArray) : Int := if vS a && vS b then cmpI (nS a) (nS b) else 0
def sgn (neg : Bool) (x : Nat) : Int := if neg then -(x : Int) else x
theorem sgn_abs (neg : Bool) (x : Nat) : (sgn neg x).natAbs = x := by unfold sgn; split <;> omega
theorem nS_sgn (s : ByteArray) : nS s = sgn (negB s.data.toList) (nS s).natAbs := by
  unfold nS sgn negB
  rw [toI_abs]
  unfold toI
  by_cases h : s.data.toList.head? = some 45 <;> simp [h]
theorem nS_lt {s : ByteArray} (h : vS s = true) : (nS s).natAbs < BIG := toI_lt h
theorem vS_ofI {n : Int} (h : n.natAbs < BIG) : vS (ofI n) = true := vld_ofI h
theorem nS_ofI (n : Int) : nS (ofI n) = n := toI_ofI n
theorem ofI_nS {s : ByteArray} (h : vS s = true) : ofI (nS s) = s := ba_ext (by rw [ofI_list]; exact itoa_toI h)
theorem digs_len_200 {x : Nat} (h : x < BIG) : (digs 10 x).length ≤ 200 := (digs_length_le (by decide) x 200).2 h
theorem vS_size {s : ByteArray} (h : vS s = true) : s.size ≤ 201 := by
  have h1 := (vld_parts h).2.1
  unfold body at h1
  have h2 := ba_len s
  split at h1
  · rw [List.length_tail] at h1; omega
  · omega
theorem zero_lt_BIG : 0 < BIG := by unfold BIG; decide +kernel
theorem one_lt_BIG : 1 < BIG := by unfold BIG; decide +kernel
theorem div_sizes_pos (x : Nat) (neg2 : Bool) (y : Nat) : ((x : Int) / sgn neg2 y = sgn neg2 (x / y)) ∧ ((x : Int) % sgn neg2 y = ((x % y : Nat) : Int)) := by
  cases neg2
  · simp [sgn]
  · simp [sgn, Int.ediv_neg, Int.emod_neg]
theorem div_sizes_neg {x y : Nat} (hy : 0 < y) (neg2 : Bool) : ((-(x : Int)) / sgn neg2 y = sgn (!neg2) (if x % y = 0 then x / y else x / y + 1)) ∧ ((-(x : Int)) % sgn neg2 y = ((if x % y = 0 then 0 else y - x % y : Nat) : Int)) := by
  have hlt := Nat.mod_lt x hy
  have hdm := Nat.div_add_mod x y
  have main : ∀ q r : Int, -(x : Int) = (y : Int) * q + r → 0 ≤ r → r < y → (-(x : Int)) / (y : Int) = q ∧ (-(x : Int)) % (y : Int) = r := by
    intro q r h h0 h1
    have e1 : (-(x : Int)) / (y : Int) = q := by
      rw [h, Int.add_comm, Int.add_mul_ediv_left _ _ (by omega), Int.ediv_eq_zero_of_lt h0 h1]; omega
    refine ⟨e1, ?_⟩
    rw [h, Int.add_comm, Int.add_mul_emod_self_left, Int.emod_eq_of_lt h0 h1]
  by_cases hr : x % y = 0
  · have h1 := main (-(x / y : Nat)) 0 (by
      have e : (x : Int) = (y : Int) * ((x / y : Nat) : Int) := by rw [← Int.natCast_mul]; omega
      rw [Int.mul_neg]; omega) (by omega) (by omega)
    cases neg2
    · simp only [sgn, hr, if_true, Bool.not_false]; exact ⟨h1.1, h1.2⟩
    · simp only [sgn, hr, if_true, Bool.not_true, Int.ediv_neg, Int.emod_neg, h1.1, h1.2]; simp
  · have h1 := main (-((x / y + 1 : Nat) : Int)) ((y - x % y : Nat) : Int) (by
      have e : (x : Int) = (y : Int) * ((x / y : Nat) : Int) + ((x % y : Nat) : Int) := by rw [← Int.natCast_mul]; omega
      rw [Int.mul_neg, Int.natCast_add, Int.mul_add]; omega) (by omega) (by omega)
    cases neg2
    · simp only [sgn, hr, if_false, if_true, Bool.not_false]; exact ⟨h1.1, h1.2⟩
    · simp only [sgn, hr, if_false, if_true, Bool.not_true, Int.ediv_neg, Int.emod_neg, h1.1, h1.2]; simp
theorem cmp_sgn_pos (x y : Nat) : cmpI (x : Int) (y : Int) = cmpN x y := by unfold cmpI cmpN; simp only [Int.ofNat_lt]
theorem cmp_sgn_neg (x y : Nat) : cmpI (-(x : Int)) (-(y : Int)) = cmpN y x := by
  unfold cmpI cmpN
  by_cases h : x < y
  · rw [if_neg (by omega), if_pos (by omega), if_neg (by omega), if_pos h]
  · by_cases h2 : y < x
    · rw [if_pos (by omega), if_pos h2]
    · rw [if_neg (by omega), if_neg (by omega), if_neg h2, if_neg h]
end Yk
namespace Yk
open Go
abbrev RS := ByteArray × ByteArray
def noR : RS := (ByteArray.empty, ByteArray.empty)
def rV (a : RS) : Bool := vS a.1 && vS a.2 && decide (0 < nS a.2) && decide (Int.gcd (nS a.1) (nS a.2) = 1)
def qV (a : RS) : Rat := Rat.divInt (nS a.1) (nS a.2)
def rT (q : Rat) : RS := (ofI q.num, ofI q.den)
def small (n : Int) : Bool := decide (n.natAbs < BIG)
def rMk (n d : Int) : RS × Int := if small n && small d && decide (d ≠ 0) then (rT (Rat.divInt n d), 0) else (noR, 40)
def rMake (n d : ByteArray) : RS × Int := if vS n && vS d && decide (nS d ≠ 0) then (rT (Rat.divInt (nS n) (nS d)), 0) else (noR, 40)
def rAdd (a b : RS) : RS × Int := if rV a && rV b && small (nS a.1 * nS b.2) && small (nS b.1 * nS a.2) then rMk (nS a.1 * nS b.2 + nS b.1 * nS a.2) (nS a.2 * nS b.2) else (noR, 40)
def rSub (a b : RS) : RS × Int := if rV a && rV b && small (nS a.1 * nS b.2) && small (nS b.1 * nS a.2) then rMk (nS a.1 * nS b.2 - nS b.1 * nS a.2) (nS a.2 * nS b.2) else (noR, 40)
def rMul (a b : RS) : RS × Int := if rV a && rV b then rMk (nS a.1 * nS b.1) (nS a.2 * nS b.2) else (noR, 40)
def rDiv (a b : RS) : RS × Int := if rV a && rV b then rMk (nS a.1 * nS b.2) (nS a.2 * nS b.1) else (noR, 40)
def cmpQ (x y : Rat) : Int := if x < y then -1 else if y < x then 1 else 0
def rCmp (a b : RS) : Int := if rV a && rV b then cmpQ (qV a) (qV b) else 0
def rPrint (a : RS) : ByteArray := if rV a then (if nS a.2 = 1 then a.1 else ⟨(a.1.data.toList ++ [47] ++ a.2.data.toList).toArray⟩) else ByteArray.empty
def rSplit (l : List UInt8) : List UInt8 × List UInt8 := if l.contains 47 then (l.takeWhile (· != 47), (l.dropWhile (· != 47)).tail) else (l, [49])
def rOf (s : ByteArray) : RS := (⟨(rSplit s.data.toList).1.toArray⟩, ⟨(rSplit s.data.toList).2.toArray⟩)
def rParse (s : ByteArray) : RS × Int := if rV (rOf s) && decide (rPrint (rOf s) = s) then (rOf s, 0) else (noR, 40)
theorem small_iff {n : Int} : small n = true ↔ n.natAbs < BIG := by simp [small]
theorem rV_parts {a : RS} (h : rV a = true) : vS a.1 = true ∧ vS a.2 = true ∧ 0 < nS a.2 ∧ Int.gcd (nS a.1) (nS a.2) = 1 := by
  simp only [rV, Bool.and_eq_true, decide_eq_true_eq] at h
  exact ⟨h.1.1.1, h.1.1.2, h.1.2, h.2⟩
theorem divInt_pos_num {n d : Int} (hd : 0 < d) : (Rat.divInt n d).num = n / Int.gcd n d ∧ ((Rat.divInt n d).den : Int) = d / Int.gcd n d := by
  rw [Rat.num_divInt, Rat.den_divInt, if_neg (by omega), Int.sign_eq_one_of_pos hd, Int.one_mul, Int.gcd_comm d n]
  refine ⟨rfl, ?_⟩
  rw [Int.natCast_ediv]
  congr 1
  omega
theorem qV_num {a : RS} (h : rV a = true) : (qV a).num = nS a.1 ∧ ((qV a).den : Int) = nS a.2 := by
  obtain ⟨_, _, h3, h4⟩ := rV_parts h
  obtain ⟨e1, e2⟩ := divInt_pos_num (n := nS a.1) h3
  unfold qV
  rw [e1, e2, h4]
  simp
theorem qV_rT (q : Rat) : qV (rT q) = q := by
  unfold qV rT
  rw [nS_ofI, nS_ofI]
  exact Rat.num_divInt_den q
theorem rV_rT {q : Rat} (h1 : q.num.natAbs < BIG) (h2 : q.den < BIG) : rV (rT q) = true := by
  have h3 := q.den_pos
  have h4 := q.reduced
  unfold rV rT
  simp only [nS_ofI, Bool.and_eq_true, decide_eq_true_eq]
  exact ⟨⟨⟨vS_ofI h1, vS_ofI (by omega)⟩, by omega⟩, by rw [Int.gcd]; exact h4⟩
theorem divInt_le (n d : Int) (hd : d ≠ 0) : (Rat.divInt n d).num.natAbs ≤ n.natAbs ∧ (Rat.divInt n d).den ≤ d.natAbs := by
  rw [Rat.num_divInt, Rat.den_divInt, if_neg hd]
  have hg : 0 < Int.gcd d n := Int.gcd_pos_of_ne_zero_left _ hd
  refine ⟨?_, Nat.div_le_self _ _⟩
  have hdv : ((Int.gcd d n : Nat) : Int) ∣ d.sign * n := Int.dvd_trans (Int.gcd_dvd_right d n) (Int.dvd_mul_left _ _)
  rw [Int.natAbs_ediv_of_dvd hdv, Int.natAbs_natCast, Int.natAbs_mul, Int.natAbs_sign_of_ne_zero hd, Nat.one_mul]
  exact Nat.div_le_self _ _
theorem rV_mk {n d : Int} (hn : small n = true) (hd : small d = true) (h0 : d ≠ 0) : rV (rT (Rat.divInt n d)) = true := by
  have h := divInt_le n d h0
  exact rV_rT (Nat.lt_of_le_of_lt h.1 (small_iff.1 hn)) (Nat.lt_of_le_of_lt h.2 (small_iff.1 hd))
theorem rMk_ok {n d : Int} (hn : small n = true) (hd : small d = true) (h0 : d ≠ 0) : rMk n d = (rT (Rat.divInt n d), 0) := by
  unfold rMk
  rw [if_pos (by simp [hn, hd, h0])]
theorem rMk_no {n d : Int} (h : ¬ (small n = true ∧ small d = true ∧ d ≠ 0)) : rMk n d = (noR, 40) := by
  unfold rMk
  rw [if_neg]
  intro h2
  simp only [Bool.and_eq_true, decide_eq_true_eq] at h2
  exact h ⟨h2.1.1, h2.1.2, h2.2⟩
theorem rMake_eq (n d : ByteArray) : rMake n d = if vS n && vS d then rMk (nS n) (nS d) else (noR, 40) := by
  unfold rMake rMk
  by_cases h : vS n = true ∧ vS d = true
  · obtain ⟨h1, h2⟩ := h
    have e1 : small (nS n) = true := small_iff.2 (nS_lt h1)
    have e2 : small (nS d) = true := small_iff.2 (nS_lt h2)
    simp [h1, h2, e1, e2]
  · have : (vS n && vS d) = false := by
      rw [Bool.and_eq_false_iff]
      cases e1 : vS n <;> cases e2 : vS d <;> simp_all
    simp [this]
theorem small_vS (n : Int) : small n = vS (ofI n) := by
  rw [Bool.eq_iff_iff, small_iff]
  refine ⟨vS_ofI, fun h => ?_⟩
  have := nS_lt h
  rwa [nS_ofI] at this
theorem rMake_ofI (n d : Int) : rMake (ofI n) (ofI d) = rMk n d := by
  rw [rMake_eq]
  unfold rMk
  rw [← small_vS, ← small_vS, nS_ofI, nS_ofI]
  cases small n <;> cases small d <;> simp
theorem ofI_zero : ofI 0 = ⟨#[48]⟩ := by
  apply ba_ext; rw [ofI_list, itoa_pos (by decide), decDigits_digs]; simp
theorem ofI_one : ofI 1 = ⟨#[49]⟩ := by
  apply ba_ext; rw [ofI_list, itoa_pos (by decide), decDigits_digs]; simp [digs_digit (B := 10) (d := 1) (by decide) (by decide) (by decide)]
theorem nS_zero_iff {s : ByteArray} (h : vS s = true) : nS s = 0 ↔ s = ⟨#[48]⟩ := by
  rw [← ofI_zero]
  constructor
  · intro e; rw [← ofI_nS h, e]
  · intro e; rw [e, nS_ofI]
theorem nS_one_iff {s : ByteArray} (h : vS s = true) : nS s = 1 ↔ s = ⟨#[49]⟩ := by
  rw [← ofI_one]
  constructor
  · intro e; rw [← ofI_nS h, e]
  · intro e; rw [e, nS_ofI]
end Yk
namespace Yk
open Go
theorem cmpQ_divInt {n d m c : Int} (hd : 0 < d) (hc : 0 < c) : cmpQ (Rat.divInt n d) (Rat.divInt m c) = cmpI (n * c) (m * d) := by
  have hd' : (0 : Rat) < (d : Rat) := by exact_mod_cast hd
  have hc' : (0 : Rat) < (c : Rat) := by exact_mod_cast hc
  have key : ∀ (x y z t : Int), 0 < t → 0 < y → (Rat.divInt x y < Rat.divInt z t ↔ x * t < z * y) := by
    intro x y z t ht hy
    have hy' : (0 : Rat) < (y : Rat) := by exact_mod_cast hy
    have ht' : (0 : Rat) < (t : Rat) := by exact_mod_cast ht
    rw [Rat.divInt_eq_div, Rat.divInt_eq_div, Rat.div_lt_iff hy', ← Rat.intCast_lt_intCast, Rat.intCast_mul, Rat.intCast_mul]
    have e : (z : Rat) / (t : Rat) * (y : Rat) = (z : Rat) * (y : Rat) / (t : Rat) := by grind
    rw [e, Rat.lt_div_iff ht']
  unfold cmpQ cmpI
  simp only [key n d m c hc hd, key m c n d hd hc]
theorem cmp_whole {n d m c : Int} (hd : 0 < d) (hc : 0 < c) (h : n / d ≠ m / c) : cmpI (n * c) (m * d) = cmpI (n / d) (m / c) := by
  have e1 := Int.mul_ediv_add_emod n d
  have e2 := Int.mul_ediv_add_emod m c
  have a1 := Int.emod_nonneg n (show d ≠ 0 by omega)
  have a2 := Int.emod_lt_of_pos n hd
  have b1 := Int.emod_nonneg m (show c ≠ 0 by omega)
  have b2 := Int.emod_lt_of_pos m hc
  generalize n / d = q at *
  generalize m / c = p at *
  generalize n % d = r at *
  generalize m % c = s at *
  have key : ∀ (n d m c q p r s : Int), 0 < d → 0 < c → d * q + r = n → c * p + s = m → r < d → 0 ≤ s → q < p → n * c < m * d := by
    intro n d m c q p r s hd hc e1 e2 h1 h2 h
    have h3 : n < d * (q + 1) := by rw [Int.mul_add]; omega
    have h4 : c * p ≤ m := by omega
    have h5 : n * c < d * (q + 1) * c := Int.mul_lt_mul_of_pos_right h3 hc
    have h6 : c * p * d ≤ m * d := Int.mul_le_mul_of_nonneg_right h4 (by omega)
    have h7 : c * d * (q + 1) ≤ c * d * p := Int.mul_le_mul_of_nonneg_left (by omega) (Int.mul_nonneg (by omega) (by omega))
    have e3 : d * (q + 1) * c = c * d * (q + 1) := by grind
    have e4 : c * p * d = c * d * p := by grind
    omega
  unfold cmpI
  by_cases hlt : q < p
  · rw [if_pos hlt, if_pos (key n d m c q p r s hd hc e1 e2 a2 b1 hlt)]
  · have hgt : p < q := by omega
    have := key m c n d p q s r hc hd e2 e1 b2 a1 hgt
    rw [if_neg hlt, if_pos hgt, if_neg (by omega), if_pos (by omega)]
theorem cmp_rest {n d m c : Int} (hd : 0 < d) (hc : 0 < c) (h : n / d = m / c) : cmpI (n * c) (m * d) = cmpI (n % d * c) (m % c * d) := by
  have e1 := Int.mul_ediv_add_emod n d
  have e2 := Int.mul_ediv_add_emod m c
  rw [h] at e1
  generalize m / c = p at *
  generalize n % d = r at *
  generalize m % c = s at *
  have e : n * c - m * d = r * c - s * d := by rw [← e1, ← e2]; grind
  unfold cmpI
  have : (n * c < m * d) = (r * c < s * d) := by rw [eq_iff_iff]; omega
  have h2 : (m * d < n * c) = (s * d < r * c) := by rw [eq_iff_iff]; omega
  simp only [this, h2]
theorem cmpI_neg (x y : Int) : cmpI x y = - cmpI y x := by unfold cmpI; split <;> split <;> omega
theorem cmpI_self (x : Int) : cmpI x x = 0 := by unfold cmpI; simp
theorem cmp_turn (r c s d : Int) : cmpI (r * c) (s * d) = - cmpI (d * s) (c * r) := by rw [cmpI_neg, Int.mul_comm s d, Int.mul_comm r c]
theorem cmp_zero_l {s d : Int} (c : Int) (hs : 0 < s) (hd : 0 < d) : cmpI (0 * c) (s * d) = -1 := by
  have := Int.mul_pos hs hd
  unfold cmpI; rw [Int.zero_mul, if_pos this]
theorem cmp_zero_r {r c : Int} (d : Int) (hr : 0 < r) (hc : 0 < c) : cmpI (r * c) (0 * d) = 1 := by
  have := Int.mul_pos hr hc
  unfold cmpI; rw [Int.zero_mul, if_neg (by omega), if_pos this]
theorem cmpQ_le {x y : Rat} : cmpQ x y ≤ 0 ↔ x ≤ y := by
  unfold cmpQ
  by_cases h1 : x < y
  · simp [h1]; grind
  · by_cases h2 : y < x
    · simp [h1, h2]; grind
    · simp [h1, h2]; grind
theorem qV_zero_iff {a : RS} (h : rV a = true) : qV a = 0 ↔ nS a.1 = 0 := by
  rw [← Rat.num_eq_zero, (qV_num h).1]
def Gives (x : RS × Int) (q : Rat) : Prop := x = (rT q, 0) ∧ rV (rT q) = true
theorem Gives.fst {x : RS × Int} {q : Rat} (h : Gives x q) : x.1 = rT q := by rw [h.1]
theorem Gives.snd {x : RS × Int} {q : Rat} (h : Gives x q) : x.2 = 0 := by rw [h.1]
theorem Gives.valid {x : RS × Int} {q : Rat} (h : Gives x q) : rV x.1 = true := by rw [h.1]; exact h.2
theorem Gives.val {x : RS × Int} {q : Rat} (h : Gives x q) : qV x.1 = q := by rw [h.1]; exact qV_rT q
theorem rMk_cases (n d : Int) : (small n = true ∧ small d = true ∧ d ≠ 0 ∧ Gives (rMk n d) (Rat.divInt n d)) ∨ (¬ (small n = true ∧ small d = true ∧ d ≠ 0) ∧ rMk n d = (noR, 40)) := by
  by_cases h : small n = true ∧ small d = true ∧ d ≠ 0
  · exact .inl ⟨h.1, h.2.1, h.2.2, rMk_ok h.1 h.2.1 h.2.2, rV_mk h.1 h.2.1 h.2.2⟩
  · exact .inr ⟨h, rMk_no h⟩
theorem rMk_gives {n d : Int} (h : (rMk n d).2 = 0) : Gives (rMk n d) (Rat.divInt n d) ∧ d ≠ 0 := by
  rcases rMk_cases n d with h2 | ⟨_, h2⟩
  · exact ⟨h2.2.2.2, h2.2.2.1⟩
  · rw [h2] at h; simp at h
theorem rDiv_gives {a b : RS} (h : (rDiv a b).2 = 0) : rV a = true ∧ rV b = true ∧ qV b ≠ 0 ∧ Gives (rDiv a b) (qV a / qV b) := by
  unfold rDiv at h ⊢
  split at h
  · rename_i hc
    simp only [Bool.and_eq_true] at hc
    have hg := rMk_gives h
    have hb0 : nS b.1 ≠ 0 := by intro e; rw [e] at hg; simp at hg
    refine ⟨hc.1, hc.2, fun e => hb0 ((qV_zero_iff hc.2).1 e), ?_⟩
    rw [if_pos (by simp [hc])]
    have e : Rat.divInt (nS a.1 * nS b.2) (nS a.2 * nS b.1) = qV a / qV b := by
      rw [Rat.div_def]
      unfold qV
      rw [Rat.inv_divInt, Rat.divInt_mul_divInt]
    have hg := hg.1
    rwa [e] at hg
  · simp at h
end Yk
namespace Yk
open Go
theorem rPrint_one {a : RS} (h : rV a = true) (h1 : a.2 = ⟨#[49]⟩) : rPrint a = a.1 := by
  unfold rPrint
  rw [if_pos h, if_pos ((nS_one_iff (rV_parts h).2.1).2 h1)]
theorem rPrint_two {a : RS} (h : rV a = true) (h1 : a.2 ≠ ⟨#[49]⟩) : rPrint a = ⟨(a.1.data.toList ++ [47] ++ a.2.data.toList).toArray⟩ := by
  unfold rPrint
  rw [if_pos h, if_neg (fun e => h1 ((nS_one_iff (rV_parts h).2.1).1 e))]
theorem rPrint_no {a : RS} (h : rV a = false) : rPrint a = ByteArray.empty := by
  unfold rPrint
  rw [if_neg (by rw [h]; simp)]
theorem rPrint_ne {a : RS} (h : rV a = true) : rPrint a ≠ ByteArray.empty := by
  obtain ⟨h1, h2, _, _⟩ := rV_parts h
  intro e
  have := congrArg (fun s => s.data.toList.length) e
  by_cases e1 : a.2 = ⟨#[49]⟩
  · rw [rPrint_one h e1] at this
    have h3 := (vld_parts h1).1
    simp only [ba_len] at this
    have h4 : a.1.data.toList = [] := List.eq_nil_of_length_eq_zero (by rw [ba_len]; exact this)
    rw [h4] at h3
    exact h3 rfl
  · rw [rPrint_two h e1] at this
    simp at this
theorem rParse_empty : rParse ByteArray.empty = (noR, 40) := by
  unfold rParse
  rw [if_neg]
  intro h
  simp only [Bool.and_eq_true, decide_eq_true_eq] at h
  exact rPrint_ne h.1 h.2
end Yk
namespace Yk
open Go
theorem small_lt {n : Int} {k : Nat} (h : n.natAbs < 10 ^ k) (hk : k ≤ 200) : small n = true :=
  small_iff.2 (Nat.lt_of_lt_of_le h (Nat.pow_le_pow_right (by decide) hk))
theorem mul_pow_lt {a b i j : Nat} (ha : a < 10 ^ i) (hb : b < 10 ^ j) : a * b < 10 ^ (i + j) := by
  rw [Nat.pow_add]; exact Nat.mul_lt_mul'' ha hb
theorem small_mul {a b : Int} {i j : Nat} (ha : a.natAbs < 10 ^ i) (hb : b.natAbs < 10 ^ j) (h : i + j ≤ 200) : small (a * b) = true :=
  small_lt (k := i + j) (by rw [Int.natAbs_mul]; exact mul_pow_lt ha hb) h
theorem abs_add_lt {a b : Int} {k : Nat} (ha : a.natAbs < 10 ^ k) (hb : b.natAbs < 10 ^ k) : (a + b).natAbs < 10 ^ (k + 1) ∧ (a - b).natAbs < 10 ^ (k + 1) := by
  rw [Nat.pow_succ]; omega
theorem rAdd_ok {a b : RS} (ha : rV a = true) (hb : rV b = true) (h1 : small (nS a.1 * nS b.2) = true) (h2 : small (nS b.1 * nS a.2) = true) (h3 : small (nS a.1 * nS b.2 + nS b.1 * nS a.2) = true) (h4 : small (nS a.2 * nS b.2) = true) : (rAdd a b).2 = 0 := by
  unfold rAdd
  rw [if_pos (by simp [ha, hb, h1, h2]), rMk_ok h3 h4 (by have h5 := Int.mul_pos (rV_parts ha).2.2.1 (rV_parts hb).2.2.1; omega)]
theorem rSub_ok {a b : RS} (ha : rV a = true) (hb : rV b = true) (h1 : small (nS a.1 * nS b.2) = true) (h2 : small (nS b.1 * nS a.2) = true) (h3 : small (nS a.1 * nS b.2 - nS b.1 * nS a.2) = true) (h4 : small (nS a.2 * nS b.2) = true) : (rSub a b).2 = 0 := by
  unfold rSub
  rw [if_pos (by simp [ha, hb, h1, h2]), rMk_ok h3 h4 (by have h5 := Int.mul_pos (rV_parts ha).2.2.1 (rV_parts hb).2.2.1; omega)]
theorem rMul_ok {a b : RS} (ha : rV a = true) (hb : rV b = true) (h3 : small (nS a.1 * nS b.1) = true) (h4 : small (nS a.2 * nS b.2) = true) : (rMul a b).2 = 0 := by
  unfold rMul
  rw [if_pos (by simp [ha, hb]), rMk_ok h3 h4 (by have h5 := Int.mul_pos (rV_parts ha).2.2.1 (rV_parts hb).2.2.1; omega)]
theorem rDiv_ok {a b : RS} (ha : rV a = true) (hb : rV b = true) (h0 : nS b.1 ≠ 0) (h3 : small (nS a.1 * nS b.2) = true) (h4 : small (nS a.2 * nS b.1) = true) : (rDiv a b).2 = 0 := by
  unfold rDiv
  rw [if_pos (by simp [ha, hb]), rMk_ok h3 h4 (by have h5 := (rV_parts ha).2.2.1; exact Int.mul_ne_zero (by omega) h0)]
def Few (k : Nat) (q : Rat) : Prop := q.num.natAbs < 10 ^ k ∧ q.den < 10 ^ k
def FewR (k : Nat) (a : RS) : Prop := rV a = true ∧ (nS a.1).natAbs < 10 ^ k ∧ (nS a.2).natAbs < 10 ^ k
theorem Few.rT {k : Nat} {q : Rat} (h : Few k q) (hk : k ≤ 200) : FewR k (rT q) := by
  have h200 : (10 : Nat) ^ k ≤ BIG := Nat.pow_le_pow_right (by decide) hk
  refine ⟨rV_rT (Nat.lt_of_lt_of_le h.1 h200) (Nat.lt_of_lt_of_le h.2 h200), ?_, ?_⟩
  · show (nS (ofI q.num)).natAbs < _; rw [nS_ofI]; exact h.1
  · show (nS (ofI q.den)).natAbs < _; rw [nS_ofI]; exact h.2
theorem Few.divInt {k : Nat} {n d : Int} (hd : d ≠ 0) (h1 : n.natAbs < 10 ^ k) (h2 : d.natAbs < 10 ^ k) : Few k (Rat.divInt n d) := by
  have := divInt_le n d hd
  exact ⟨by omega, by omega⟩
section
variable {a b : RS} {i j : Nat}
theorem FewR.add (ha : FewR i a) (hb : FewR j b) (h : i + j < 200) : (rAdd a b).2 = 0 := by
  have h1 := small_mul ha.2.1 hb.2.2 (by omega)
  have h2 := small_mul hb.2.1 ha.2.2 (by omega)
  have h3 := small_mul ha.2.2 hb.2.2 (by omega)
  refine rAdd_ok ha.1 hb.1 h1 h2 (small_lt (k := i + j + 1) (abs_add_lt (k := i + j) ?_ ?_).1 (by omega)) h3
  · rw [Int.natAbs_mul]; exact mul_pow_lt ha.2.1 hb.2.2
  · rw [Int.natAbs_mul, Nat.add_comm]; exact mul_pow_lt hb.2.1 ha.2.2
theorem FewR.sub (ha : FewR i a) (hb : FewR j b) (h : i + j < 200) : (rSub a b).2 = 0 := by
  have h1 := small_mul ha.2.1 hb.2.2 (by omega)
  have h2 := small_mul hb.2.1 ha.2.2 (by omega)
  have h3 := small_mul ha.2.2 hb.2.2 (by omega)
  refine rSub_ok ha.1 hb.1 h1 h2 (small_lt (k := i + j + 1) (abs_add_lt (k := i + j) ?_ ?_).2 (by omega)) h3
  · rw [Int.natAbs_mul]; exact mul_pow_lt ha.2.1 hb.2.2
  · rw [Int.natAbs_mul, Nat.add_comm]; exact mul_pow_lt hb.2.1 ha.2.2
theorem FewR.mul (ha : FewR i a) (hb : FewR j b) (h : i + j ≤ 200) : (rMul a b).2 = 0 :=
  rMul_ok ha.1 hb.1 (small_mul ha.2.1 hb.2.1 h) (small_mul ha.2.2 hb.2.2 h)
theorem FewR.div (ha : FewR i a) (hb : FewR j b) (h0 : qV b ≠ 0) (h : i + j ≤ 200) : (rDiv a b).2 = 0 :=
  rDiv_ok ha.1 hb.1 (fun e => h0 ((qV_zero_iff hb.1).2 e)) (small_mul ha.2.1 hb.2.2 h) (small_mul ha.2.2 hb.2.1 h)
end
theorem Gives.eq {x y : RS × Int} {p q : Rat} (hx : Gives x p) (hy : Gives y q) (h : p = q) : x.1 = y.1 := by rw [hx.fst, hy.fst, h]
theorem rCmp_val {a b : RS} (ha : rV a = true) (hb : rV b = true) : rCmp a b = cmpQ (qV a) (qV b) := by
  unfold rCmp; rw [if_pos (by simp [ha, hb])]
end Yk
namespace Yk
open Go
def pad4 (d : Nat) : List UInt8 := List.replicate (4 - (Lib.decDigits d).length) 48 ++ Lib.decDigits d
theorem decDigits_len_group {d : Nat} (hd : d < 10000) : 1 ≤ (Lib.decDigits d).length ∧ (Lib.decDigits d).length ≤ 4 := by
  refine ⟨?_, (decDigits_length_le d 4 (by decide)).2 hd⟩
  have := decDigits_ne_nil d
  cases h : Lib.decDigits d with
  | nil => exact absurd h this
  | cons a t => simp
theorem digs_group {T d : Nat} (hT : 0 < T) (hd : d < 10000) : digs 10 (d + 10000 * T) = digs 10 d ++ List.replicate (4 - (digs 10 d).length) 0 ++ digs 10 T := by
  symm
  have hlen : (digs 10 d).length ≤ 4 := (digs_length_le (by decide) d 4).2 (by omega)
  have hne : digs 10 T ≠ [] := fun e => by have := (digs_eq_nil (B := 10) (by decide)).1 e; omega
  refine canon_eq (by decide) ⟨?_, ?_⟩ ?_
  · intro z hz
    rw [List.mem_append, List.mem_append] at hz
    rcases hz with (h | h) | h
    · exact digs_lt (by decide) d z h
    · have := List.eq_of_mem_replicate h; omega
    · exact digs_lt (by decide) T z h
  · rw [List.getLast?_append]
    have h2 := digs_last (B := 10) (by decide) T
    cases h3 : (digs 10 T).getLast? with
    | none => exact absurd (List.getLast?_eq_none_iff.1 h3) hne
    | some z => rw [h3] at h2; simpa using h2
  · have e0 : ∀ n, val 10 (List.replicate n 0) = 0 := by
      intro n
      induction n with
      | zero => rfl
      | succ n ih => rw [List.replicate_succ, val, ih]
    rw [val_append, val_append, e0, val_digs (by decide), val_digs (by decide), List.length_append, List.length_replicate]
    have : (digs 10 d).length + (4 - (digs 10 d).length) = 4 := by omega
    rw [this]; omega
theorem decDigits_group {T d : Nat} (hT : 0 < T) (hd : d < 10000) : Lib.decDigits (d + 10000 * T) = Lib.decDigits T ++ pad4 d := by
  unfold pad4
  rw [decDigits_digs (d + 10000 * T), decDigits_digs T, if_neg (by omega), if_neg (by omega), digs_group hT hd, List.reverse_append, List.reverse_append, List.map_append, List.map_append]
  congr 1
  rw [decDigits_digs d]
  by_cases h0 : d = 0
  · subst h0
    rw [if_pos rfl, digs_zero]; decide
  · rw [if_neg h0, List.reverse_replicate, List.map_replicate]
    simp
def topV (l : List Nat) (k : Nat) : Nat := val 10000 (l.drop (l.length - k))
theorem topV_succ {l : List Nat} {k : Nat} (h : k < l.length) : topV l (k + 1) = l[l.length - 1 - k] + 10000 * topV l k := by
  unfold topV
  have e : l.length - (k + 1) = l.length - 1 - k := by omega
  rw [e, List.drop_eq_getElem_cons (by omega), val]
  congr 4; omega
theorem topV_pos {l : List Nat} (hl : l.getLast? ≠ some 0) {k : Nat} (h0 : 0 < k) (h : k ≤ l.length) : 0 < topV l k := by
  unfold topV
  have hne : l.drop (l.length - k) ≠ [] := by
    intro e; have := congrArg List.length e; rw [List.length_drop] at this; simp at this; omega
  refine val_pos_of_canon (by decide) hne ?_
  rw [List.getLast?_drop, if_neg (by omega)]
  exact hl
theorem topV_all (l : List Nat) : topV l l.length = val 10000 l := by unfold topV; rw [Nat.sub_self, List.drop_zero]
def topT (l : List Nat) (k : Nat) : List UInt8 := if k = 0 then [] else Lib.decDigits (topV l k)
theorem topT_first {l : List Nat} (h : 0 < l.length) : topT l 1 = topT l 0 ++ Lib.decDigits l[l.length - 1] := by
  unfold topT
  rw [if_neg (by decide), if_pos rfl, topV_succ h, List.nil_append]
  simp [topV, val]
theorem topT_next {l : List Nat} (hl : l.getLast? ≠ some 0) (hd : ∀ z ∈ l, z < 10000) {k : Nat} (h0 : 0 < k) (h : k < l.length) : topT l (k + 1) = topT l k ++ pad4 l[l.length - 1 - k] := by
  unfold topT
  rw [if_neg (by omega), if_neg (by omega), topV_succ h]
  exact decDigits_group (topV_pos hl h0 (by omega)) (hd _ (List.getElem_mem _))
theorem topT_end {x : Nat} (h : x ≠ 0) : topT (digs 10000 x) (digs 10000 x).length = Lib.decDigits x := by
  unfold topT
  rw [if_neg, topV_all, val_digs (by decide)]
  intro e
  have := (digs_eq_nil (B := 10000) (by decide)).1 (List.eq_nil_of_length_eq_zero e)
  exact h this
end Yk
namespace Yk
open Go
theorem ofI_lit {s : ByteArray} {n : Int} (hv : vS s = true) (hn : nS s = n) : ofI n = s := by rw [← hn, ofI_nS hv]
theorem rMk_lit {n d : Int} (q : Rat) {t : RS} (hn : n.natAbs < 10 ^ 9) (hd : d.natAbs < 10 ^ 9) (h0 : d ≠ 0) (hq : Rat.divInt n d = q) (v1 : vS t.1 = true) (v2 : vS t.2 = true) (h1 : nS t.1 = q.num) (h2 : nS t.2 = q.den) : rMk n d = (t, 0) := by
  rw [rMk_ok (small_lt hn (by decide)) (small_lt hd (by decide)) h0, hq]
  unfold rT
  rw [ofI_lit v1 h1, ofI_lit v2 h2]
end Yk
