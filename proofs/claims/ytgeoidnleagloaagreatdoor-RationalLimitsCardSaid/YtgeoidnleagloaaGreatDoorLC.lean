/- The law RationalLimits: the plain part. -/
import Derived.Test.YtgeoidnleagloaaGreatDoorLA
set_option linter.unusedVariables false
set_option linter.unusedSimpArgs false
namespace Go.Proofs.YtgeoidnleagloaaGreatDoor
open Go.RowKit Yk

/-- What a round that lengthens a power of ten keeps. -/
def PowL (n : Nat) (vs vi : Value) : Prop := ∃ (k : Nat) (t : ByteArray), k ≤ n ∧ vi = .int .i64 (k : Int) ∧ vs = .string t ∧ t.data.toList = 49 :: List.replicate k 48
theorem ten_mul (n m : Nat) : ten n * ten m = ten (n + m) := by unfold ten; rw [Nat.pow_add]; exact (Int.natCast_mul _ _).symm
theorem small_ten (p : Nat) : small (ten p) = decide (p < 200) := by
  unfold small ten BIG
  rw [Int.natAbs_natCast]
  congr 1
  exact propext (Nat.pow_lt_pow_iff_right (by decide))
theorem nS_1 : nS ⟨#[49]⟩ = 1 := by decide
theorem rV_ten {p : Nat} (h : p < 200) : rV (tenT p, ⟨#[49]⟩) = true := by
  unfold rV
  simp [vS_tenT h, show vS ⟨#[49]⟩ = true from by decide, nS_1]
theorem rV_tenth {p : Nat} (h : p < 200) : rV (⟨#[49]⟩, tenT p) = true := by
  unfold rV
  simp [vS_tenT h, show vS ⟨#[49]⟩ = true from by decide, nS_1, nS_tenT, ten_pos]
theorem lim_mul_ok {n m : Nat} (hn : n < 200) (hm : m < 200) (h : n + m < 200) : (rMul (tenT n, ⟨#[49]⟩) (tenT m, ⟨#[49]⟩)).2 = 0 := by
  refine rMul_ok (rV_ten hn) (rV_ten hm) ?_ ?_
  · show small (nS (tenT n) * nS (tenT m)) = true
    rw [nS_tenT, nS_tenT, ten_mul, small_ten]; simp [h]
  · show small (nS ⟨#[49]⟩ * nS ⟨#[49]⟩) = true
    rw [nS_1]; exact sm (by decide)
theorem lim_mul_no {n m : Nat} (hn : n < 200) (hm : m < 200) (h : ¬ n + m < 200) : rMul (tenT n, ⟨#[49]⟩) (tenT m, ⟨#[49]⟩) = (noR, 40) := by
  unfold rMul
  rw [if_pos (by simp [rV_ten hn, rV_ten hm]), rMk_no]
  show ¬ (small (nS (tenT n) * nS (tenT m)) = true ∧ _)
  rw [nS_tenT, nS_tenT, ten_mul, small_ten]; simp [h]
theorem lim_div {m : Nat} (hm : m < 200) : rDiv (⟨#[49]⟩, ⟨#[49]⟩) (tenT m, ⟨#[49]⟩) = ((⟨#[49]⟩, tenT m), 0) := by
  have e1 : rV (⟨#[49]⟩, ⟨#[49]⟩) = true := rV_tenth (p := 0) (by decide)
  unfold rDiv
  rw [if_pos (by simp [e1, rV_ten hm])]
  show rMk (nS ⟨#[49]⟩ * nS ⟨#[49]⟩) (nS ⟨#[49]⟩ * nS (tenT m)) = _
  have h0 := ten_pos m
  rw [nS_tenT, nS_1, Int.one_mul, Int.one_mul, rMk_ok (sm (by decide)) (by rw [small_ten]; simp [hm]) (by omega)]
  have := rT_qV (rV_tenth hm)
  unfold qV at this
  rw [show nS (⟨#[49]⟩, tenT m).1 = 1 from nS_1, show nS ((⟨#[49]⟩, tenT m) : RS).2 = ten m from nS_tenT m] at this
  rw [this]
theorem lim_add_ok {n m : Nat} (hn : n < 200) (hm : m < 200) (h : n + m < 200) : (rAdd (tenT n, ⟨#[49]⟩) (⟨#[49]⟩, tenT m)).2 = 0 := by
  have e1 : small (ten (n + m)) = true := by rw [small_ten]; simp [h]
  refine rAdd_ok (rV_ten hn) (rV_tenth hm) ?_ ?_ ?_ ?_
  · show small (nS (tenT n) * nS (tenT m)) = true
    rw [nS_tenT, nS_tenT, ten_mul]; exact e1
  · show small (nS ⟨#[49]⟩ * nS ⟨#[49]⟩) = true
    rw [nS_1]; exact sm (by decide)
  · show small (nS (tenT n) * nS (tenT m) + nS ⟨#[49]⟩ * nS ⟨#[49]⟩) = true
    rw [nS_tenT, nS_tenT, ten_mul, nS_1]
    refine small_lt (k := n + m + 1) ?_ (by omega)
    have : 0 < 10 ^ (n + m) := Nat.pow_pos (by decide)
    unfold ten
    rw [Nat.pow_succ]
    omega
  · show small (nS ⟨#[49]⟩ * nS (tenT m)) = true
    rw [nS_tenT, nS_1, Int.one_mul, small_ten]; simp [hm]
theorem lim_add_no {n m : Nat} (h : ¬ n + m < 200) : rAdd (tenT n, ⟨#[49]⟩) (⟨#[49]⟩, tenT m) = (noR, 40) := by
  unfold rAdd
  rw [if_neg]
  show ¬ ((_ && small (nS (tenT n) * nS (tenT m)) && _) = true)
  rw [nS_tenT, nS_tenT, ten_mul, small_ten]
  simp [h]
theorem ten_lt {n m : Nat} : ten n < ten m ↔ n < m := by
  unfold ten
  rw [Int.ofNat_lt]
  exact Nat.pow_lt_pow_iff_right (by decide)
theorem lim_cmp {n m : Nat} (hn : n < 200) (hm : m < 200) : rCmp (tenT n, ⟨#[49]⟩) (tenT m, ⟨#[49]⟩) = cmpI n m := by
  rw [rCmp_val (rV_ten hn) (rV_ten hm)]
  unfold qV
  show cmpQ (Rat.divInt (nS (tenT n)) (nS ⟨#[49]⟩)) (Rat.divInt (nS (tenT m)) (nS ⟨#[49]⟩)) = _
  rw [cmpQ_divInt (by decide) (by decide), nS_1, nS_tenT, nS_tenT, Int.mul_one, Int.mul_one]
  unfold cmpI
  simp only [ten_lt, Int.ofNat_lt]
theorem lim_above {n m : Nat} (hn : n < 200) (hm : m < 200) : rCmp (tenT n, ⟨#[49]⟩) (⟨#[49]⟩, tenT m) = if n = 0 ∧ m = 0 then 0 else 1 := by
  rw [rCmp_val (rV_ten hn) (rV_tenth hm)]
  unfold qV
  show cmpQ (Rat.divInt (nS (tenT n)) (nS ⟨#[49]⟩)) (Rat.divInt (nS ⟨#[49]⟩) (nS (tenT m))) = _
  rw [cmpQ_divInt (by decide) (by rw [nS_tenT]; exact ten_pos m), nS_1, nS_tenT, nS_tenT, Int.mul_one, ten_mul, show (1 : Int) = ten 0 from rfl]
  unfold cmpI
  simp only [ten_lt]
  by_cases h : n = 0 ∧ m = 0
  · rw [if_neg (by omega), if_neg (by omega), if_pos h]
  · rw [if_neg (by omega), if_pos (by omega), if_neg h]; rfl
end Go.Proofs.YtgeoidnleagloaaGreatDoor
