/- The law RationalOrder: the plain part. -/
import Derived.Test.YtgeoidnleagloaaGreatDoorPL
import Derived.Test.YtgeoidnleagloaaGreatDoorQC
set_option linter.unusedVariables false
set_option linter.unusedSimpArgs false
namespace Go.Proofs.YtgeoidnleagloaaGreatDoor
open Go.RowKit Yk

theorem few_sz2 {a : RS} (h : FewR 100 a) : a.1.size ≤ maxLen ∧ a.2.size ≤ maxLen := ⟨size_vS (rV_parts h.1).1, size_vS (rV_parts h.1).2.1⟩
theorem cmp_self2 {a : RS} (h : rV a = true) : rCmp a a = 0 := by rw [rCmp_val h h, cmpQ_zero]
theorem ord_le {a b c : RS} (ha : rV a = true) (hb : rV b = true) (hc : rV c = true) (h1 : rCmp a b ≤ 0) (h2 : rCmp b c ≤ 0) : rCmp a c ≤ 0 := by
  rw [rCmp_val ha hb, cmpQ_le] at h1
  rw [rCmp_val hb hc, cmpQ_le] at h2
  rw [rCmp_val ha hc, cmpQ_le]
  exact Rat.le_trans h1 h2
theorem ord_lt {a b c : RS} (ha : rV a = true) (hb : rV b = true) (hc : rV c = true) (h1 : rCmp a b ≤ 0) (h2 : rCmp b c < 0) : rCmp a c < 0 := by
  rw [rCmp_val ha hb, cmpQ_le] at h1
  rw [rCmp_val hb hc, cmpQ_lt] at h2
  rw [rCmp_val ha hc, cmpQ_lt]
  grind
theorem ord_range {a b : RS} (ha : rV a = true) (hb : rV b = true) : rCmp a b = -1 ∨ rCmp a b = 0 ∨ rCmp a b = 1 := by
  rw [rCmp_val ha hb]; exact cmpQ_range _ _
theorem ord_neg {a b : RS} (ha : rV a = true) (hb : rV b = true) : rCmp b a = - rCmp a b := by
  rw [rCmp_val ha hb, rCmp_val hb ha]; exact cmpQ_neg _ _
theorem ord_zero {a b : RS} (ha : rV a = true) (hb : rV b = true) : rCmp a b = 0 ↔ a = b := by
  rw [rCmp_val ha hb, cmpQ_zero]
  exact ⟨fun h => qV_inj ha hb h, fun h => by rw [h]⟩
end Go.Proofs.YtgeoidnleagloaaGreatDoor
