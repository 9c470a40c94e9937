/- Plain facts on a quotient's digits, found from the end. No program in sight. -/
import Derived.Test.YtgeoidnleagloaaGreatDoorPL
import Derived.Test.YtgeoidnleagloaaGreatDoorIC
set_option linter.unusedVariables false
set_option linter.unusedSimpArgs false
namespace Go.Proofs.YtgeoidnleagloaaGreatDoor
open Yk
/-- One step of a division by groups from the end: the remainder, and the digits of the quotient. -/
def ovStep (y : Nat) (s : Nat × List Nat) (p : Nat × Nat) : Nat × List Nat := ((p.2 + 10000 * s.1) % y, s.2.set p.1 ((p.2 + 10000 * s.1) / y))
def ovFold {l : List Nat} (y n : Nat) (pre : List (Place l)) : Nat × List Nat := (pre.map (·.1)).foldl (ovStep y) (0, List.replicate n 0)
theorem ovFold_snoc {l : List Nat} (y n : Nat) (pre : List (Place l)) (p : Place l) : ovFold y n (pre ++ [p]) = ovStep y (ovFold y n pre) p.1 := by
  unfold ovFold; rw [List.map_append, List.foldl_append]; rfl
theorem ovFold_inv {l : List Nat} {y n : Nat} (hy : 0 < y) (hl : ∀ z ∈ l, z < 10000) (pre : List (Place l)) : (ovFold y n pre).1 < y ∧ (ovFold y n pre).2.length = n ∧ (∀ z ∈ (ovFold y n pre).2, z < 10000) := by
  induction h : pre.length generalizing pre with
  | zero => rw [List.eq_nil_of_length_eq_zero h]; exact ⟨hy, by simp [ovFold], by simp [ovFold]⟩
  | succ k ih =>
    obtain ⟨ini, last, rfl⟩ : ∃ ini last, pre = ini ++ [last] := ⟨pre.dropLast, pre.getLast (by intro e; rw [e] at h; simp at h), (List.dropLast_concat_getLast _).symm⟩
    obtain ⟨h1, h2, h3⟩ := ih ini (by simp at h; omega)
    have hp : last.1.2 < 10000 := hl _ (List.mem_of_getElem? last.2)
    rw [ovFold_snoc]
    generalize ovFold y n ini = s at *
    refine ⟨Nat.mod_lt _ hy, by simp [ovStep, h2], ?_⟩
    intro z hz
    rcases List.mem_or_eq_of_mem_set hz with h4 | h4
    · exact h3 z h4
    · subst h4
      rw [Nat.div_lt_iff_lt_mul hy]
      have := Nat.mul_le_mul_left 10000 (show s.1 + 1 ≤ y from h1)
      rw [Nat.mul_add] at this
      omega
theorem bw_over {x y : Nat} (hy : 0 < y) (k : Nat) (hk : k ≤ (digs 10000 x).length) :
    DivInv 10000 x y ((digs 10000 x).length - k) ((bwTo (digs 10000 x) k).foldl (ovStep y) (0, List.replicate (digs 10000 x).length 0)).1 ((bwTo (digs 10000 x) k).foldl (ovStep y) (0, List.replicate (digs 10000 x).length 0)).2 := by
  induction k with
  | zero => exact DivInv.start hy
  | succ k ih =>
    have ih := ih (by omega)
    rw [bwTo_succ, List.foldl_append, List.foldl_cons, List.foldl_nil]
    generalize (bwTo (digs 10000 x) k).foldl (ovStep y) (0, List.replicate (digs 10000 x).length 0) = s at *
    have hj : (digs 10000 x).length - 1 - k < (digs 10000 x).length := by omega
    have e1 : (digs 10000 x).length - k = (digs 10000 x).length - 1 - k + 1 := by omega
    have e2 : (digs 10000 x).length - (k + 1) = (digs 10000 x).length - 1 - k := by omega
    rw [e1] at ih
    rw [e2]
    have hg : (digs 10000 x).getD ((digs 10000 x).length - 1 - k) 0 = (digs 10000 x)[(digs 10000 x).length - 1 - k] := by simp [List.getD, List.getElem?_eq_getElem hj]
    have hR : s.1 < y := by obtain ⟨_, _, _, _, _, h⟩ := ih; exact h
    have hd : (digs 10000 x)[(digs 10000 x).length - 1 - k] < 10000 := digs_lt (by decide) x _ (List.getElem_mem hj)
    simp only [ovStep, hg]
    refine DivInv.step ih hj rfl ?_ (Nat.mod_lt _ hy) ?_
    · exact Nat.mod_add_div' _ _
    · rw [Nat.div_lt_iff_lt_mul hy]
      have := Nat.mul_le_mul_left 10000 (show s.1 + 1 ≤ y from hR)
      rw [Nat.mul_add] at this
      omega
end Go.Proofs.YtgeoidnleagloaaGreatDoor
