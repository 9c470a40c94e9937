/- The law RationalLowest: the plain part. -/
import Derived.Test.YtgeoidnleagloaaGreatDoorLA
import Derived.Test.YtgeoidnleagloaaGreatDoorSG
set_option linter.unusedVariables false
set_option linter.unusedSimpArgs false
namespace Go.Proofs.YtgeoidnleagloaaGreatDoor
open Go.RowKit Yk

theorem mk_scale {a : RS} {K : Int} (h : FewR 100 a) (h0 : K ≠ 0) (hK : K.natAbs ≤ 1000000) : small (nS a.1 * K) = true ∧ small (nS a.2 * K) = true ∧ rMake (ofI (nS a.1 * K)) (ofI (nS a.2 * K)) = (a, 0) := by
  have e : K.natAbs < 10 ^ 9 := by omega
  have s1 := small_mul h.2.1 e (by decide)
  have s2 := small_mul h.2.2 e (by decide)
  refine ⟨s1, s2, ?_⟩
  have hd := (rV_parts h.1).2.2.1
  rw [rMake_ofI, rMk_ok s1 s2 (Int.mul_ne_zero (by omega) h0), Rat.divInt_mul_right h0]
  show (rT (qV a), 0) = _
  rw [rT_qV h.1]
theorem mk_same {a : RS} (h : rV a = true) : rMake a.1 a.2 = (a, 0) := by
  obtain ⟨h1, h2, h3, _⟩ := rV_parts h
  unfold rMake
  rw [if_pos (by simp [h1, h2]; omega)]
  show (rT (qV a), 0) = _
  rw [rT_qV h]
theorem mk_zero {K : Int} (h0 : K ≠ 0) (hK : K.natAbs ≤ 1000000) : rMake ⟨#[48]⟩ (ofI K) = ((⟨#[48]⟩, ⟨#[49]⟩), 0) := by
  have e : small K = true := small_lt (k := 9) (by omega) (by decide)
  rw [← ofI_zero, rMake_ofI, rMk_ok (by decide) e h0, Rat.zero_divInt]
  unfold rT
  rw [show (0 : Rat).num = 0 from rfl, show ((0 : Rat).den : Int) = 1 from rfl, ofI_one]
theorem few_sz {a : RS} (h : FewR 100 a) : a.1.size ≤ maxLen ∧ a.2.size ≤ maxLen := ⟨size_vS (rV_parts h.1).1, size_vS (rV_parts h.1).2.1⟩
theorem cmp_self {a : RS} (h : rV a = true) : rCmp a a = 0 := by rw [rCmp_val h h, cmpQ_zero]
theorem mul_fits {s : ByteArray} {K : Int} (h : vS s = true) (hK : K.natAbs ≤ 1000000) (hs : small (nS s * K) = true) : iMul s (ofI K) = (ofI (nS s * K), 0) := by
  rw [iMul_chk h (vS_ofI (Nat.lt_of_lt_of_le (show K.natAbs < 10 ^ 9 by omega) (Nat.pow_le_pow_right (by decide) (by decide)))), nS_ofI, chkI_fits hs]
end Go.Proofs.YtgeoidnleagloaaGreatDoor
