/- The law RationalMachine: the plain part. -/
import Derived.Test.YtgeoidnleagloaaGreatDoorPL
set_option linter.unusedVariables false
set_option linter.unusedSimpArgs false
namespace Go.Proofs.YtgeoidnleagloaaGreatDoor
open Go Yk

/-- The number that the first k bytes of a text are. -/
def pv (s : ByteArray) (k : Nat) : Int := toI (s.data.toList.take k)
theorem pv_zero (s : ByteArray) : pv s 0 = 0 := by unfold pv; simp [toI, nat10, val, body]
theorem nat10_one (c : UInt8) : nat10 [c] = dv c := by simp [nat10, val]
theorem nat10_sn (l : List UInt8) (c : UInt8) : nat10 (l ++ [c]) = 10 * nat10 l + dv c := by
  rw [nat10_append, nat10_one]; simp; omega
theorem nat10_take (l : List UInt8) (k : Nat) : nat10 (l.take k) ≤ nat10 l := by
  have := nat10_append (l.take k) (l.drop k)
  rw [List.take_append_drop] at this
  have h : nat10 (l.take k) ≤ 10 ^ (l.drop k).length * nat10 (l.take k) := Nat.le_mul_of_pos_left _ (Nat.pow_pos (by decide))
  omega
theorem pv_all (s : ByteArray) : pv s s.size = nS s := by
  unfold pv nS
  rw [List.take_of_length_le]
  show s.data.toList.length ≤ s.data.size
  rw [Array.length_toList]
  exact Nat.le_refl _
theorem body_take (l : List UInt8) (k : Nat) (h : 0 < k) : body (l.take k) = if l.head? = some 45 then l.tail.take (k - 1) else l.take k := by
  cases l with
  | nil => simp [body]
  | cons c l =>
    obtain ⟨k, rfl⟩ : ∃ j, k = j + 1 := ⟨k - 1, by omega⟩
    simp [body, List.take_succ_cons]
theorem pv_le (s : ByteArray) (k : Nat) : (pv s k).natAbs ≤ (nS s).natAbs := by
  unfold pv nS
  rw [toI_abs, toI_abs]
  by_cases h : k = 0
  · subst h; simp [body, nat10, val]
  · rw [body_take _ _ (by omega)]
    split
    · rename_i h1; rw [body_neg h1]; exact nat10_take _ _
    · rename_i h1; rw [body_pos h1]; exact nat10_take _ _
/-- A byte of a number: the sign, in front, or a digit. -/
theorem byte_of {s : ByteArray} (hv : vS s = true) {k : Nat} {c : UInt8} (hk : s.data.toList[k]? = some c) : (c = 45 → k = 0) ∧ (c ≠ 45 → 48 ≤ c.toNat ∧ c.toNat ≤ 57) := by
  have hd := vld_digits hv
  generalize s.data.toList = l at *
  by_cases h : l.head? = some 45
  · rw [body_neg h] at hd
    cases l with
    | nil => simp at hk
    | cons a l =>
      cases k with
      | zero => simp at hk h; subst hk; subst h; simp
      | succ k =>
        simp at hk
        have := hd k c hk
        refine ⟨fun e => by subst e; simp at this, fun _ => this⟩
  · rw [body_pos h] at hd
    have := hd k c hk
    exact ⟨fun e => by subst e; simp at this, fun _ => this⟩
theorem pv_sign {s : ByteArray} (h : s.data.toList[0]? = some 45) : pv s 1 = 0 := by
  unfold pv
  cases hl : s.data.toList with
  | nil => rw [hl] at h; simp at h
  | cons a l => rw [hl] at h; simp at h; subst h; simp [toI, body, nat10, val]
theorem pv_succ {s : ByteArray} {k : Nat} {c : UInt8} (hk : s.data.toList[k]? = some c) (hc : c ≠ 45) (h48 : 48 ≤ c.toNat) : pv s (k + 1) = 10 * pv s k + (if s.data.toList[0]? = some 45 then - ((c.toNat : Int) - 48) else (c.toNat : Int) - 48) := by
  unfold pv
  generalize s.data.toList = l at *
  have e : l.take (k + 1) = l.take k ++ [c] := by
    rw [List.take_add_one, hk]; rfl
  have hdv : (dv c : Int) = (c.toNat : Int) - 48 := by unfold dv; omega
  cases l with
  | nil => simp at hk
  | cons a m =>
    cases k with
    | zero =>
      simp at hk
      subst hk
      simp only [List.take_zero, List.take_succ_cons, List.getElem?_cons_zero, Option.some.injEq, hc, if_false]
      unfold toI
      simp [hc, body, nat10_one, hdv, nat10, val]
    | succ k =>
      rw [e]
      simp only [List.take_succ_cons, List.cons_append, List.getElem?_cons_zero, Option.some.injEq]
      unfold toI
      by_cases h : a = 45
      · subst h
        simp [body, nat10_sn]
        omega
      · simp [body, h]
        rw [← List.cons_append, nat10_sn]
        omega
end Go.Proofs.YtgeoidnleagloaaGreatDoor
