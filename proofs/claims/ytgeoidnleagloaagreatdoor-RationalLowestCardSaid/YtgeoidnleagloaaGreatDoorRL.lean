/- Walks of the reference's integer functions: comparison, division, the greatest common divisor. -/
import Derived.Test.YtgeoidnleagloaaGreatDoorRK
set_option linter.unusedVariables false
set_option linter.unusedSimpArgs false
namespace Go.Proofs.YtgeoidnleagloaaGreatDoor
open Go.RowKit Yk

theorem neg_iff {s : ByteArray} (h : vS s = true) : negB s.data.toList = true ↔ nS s < 0 := by
  have h1 := itoa_head (nS s)
  rw [show Lib.itoa (nS s) = s.data.toList from itoa_toI h] at h1
  simpa [negB] using h1
theorem cmp_mixed {x y : Int} (hx : x < 0) (hy : 0 ≤ y) : cmpI x y = -1 ∧ cmpI y x = 1 := by
  unfold cmpI
  constructor
  · rw [if_pos (by omega)]
  · rw [if_neg (by omega), if_pos (by omega)]

set_option maxRecDepth 100000 in
theorem refCompare_truefalse (a b : ByteArray) (w : World) (hva : vld a.data.toList = true) (hvb : vld b.data.toList = true) (hsa : a.size ≤ maxLen) (hsb : b.size ≤ maxLen) (hx : negB a.data.toList = true) (hy : negB b.data.toList = false) :
    Calls Tryz.prog 67 #[.string a, .string b] w fun e w' => e = .returned (.int .i64 (-1)) ∧ Below w.heap.size w w' := by
  have hda := refDigitsN a
  have hdb := refDigitsN b
  rw [hx] at hda
  rw [hy] at hdb
  have Hda := Lib.hid hda
  have Hdb := Lib.hid hdb
  clear hda hdb hx hy
  go_enter Tryz.func67, Tryz.ntmps67
  go_wp2_with (first | (go_at_call 53; refine (refValid_any _ _ (by assumption)).mono ?_; rintro e w0 ⟨rfl, rfl⟩) | (go_at_call 54; (with_reducible refine (Hda.out _ hva).mono ?_); rintro e w1 ⟨v1, rfl, hr1, hf1, hb1⟩) | (go_at_call 54; (with_reducible refine (Hdb.out _ hvb).mono ?_); rintro e w2 ⟨v2, rfl, hr2, hf2, hb2⟩))
  go_ret
  exact ⟨rfl, hb1.trans (hb2.mono hb1.size)⟩
set_option maxRecDepth 100000 in
theorem refCompare_falsetrue (a b : ByteArray) (w : World) (hva : vld a.data.toList = true) (hvb : vld b.data.toList = true) (hsa : a.size ≤ maxLen) (hsb : b.size ≤ maxLen) (hx : negB a.data.toList = false) (hy : negB b.data.toList = true) :
    Calls Tryz.prog 67 #[.string a, .string b] w fun e w' => e = .returned (.int .i64 (1)) ∧ Below w.heap.size w w' := by
  have hda := refDigitsN a
  have hdb := refDigitsN b
  rw [hx] at hda
  rw [hy] at hdb
  have Hda := Lib.hid hda
  have Hdb := Lib.hid hdb
  clear hda hdb hx hy
  go_enter Tryz.func67, Tryz.ntmps67
  go_wp2_with (first | (go_at_call 53; refine (refValid_any _ _ (by assumption)).mono ?_; rintro e w0 ⟨rfl, rfl⟩) | (go_at_call 54; (with_reducible refine (Hda.out _ hva).mono ?_); rintro e w1 ⟨v1, rfl, hr1, hf1, hb1⟩) | (go_at_call 54; (with_reducible refine (Hdb.out _ hvb).mono ?_); rintro e w2 ⟨v2, rfl, hr2, hf2, hb2⟩))
  go_ret
  exact ⟨rfl, hb1.trans (hb2.mono hb1.size)⟩
set_option maxRecDepth 100000 in
theorem refCompare_truetrue (a b : ByteArray) (w : World) (hva : vld a.data.toList = true) (hvb : vld b.data.toList = true) (hsa : a.size ≤ maxLen) (hsb : b.size ≤ maxLen) (hx : negB a.data.toList = true) (hy : negB b.data.toList = true) :
    Calls Tryz.prog 67 #[.string a, .string b] w fun e w' => e = .returned (.int .i64 (cmpN (nS b).natAbs (nS a).natAbs)) ∧ Below w.heap.size w w' := by
  have hda := refDigitsN a
  have hdb := refDigitsN b
  rw [hx] at hda
  rw [hy] at hdb
  have Hda := Lib.hid hda
  have Hdb := Lib.hid hdb
  clear hda hdb hx hy
  go_enter Tryz.func67, Tryz.ntmps67
  go_wp2_with (first | (go_at_call 53; refine (refValid_any _ _ (by assumption)).mono ?_; rintro e w0 ⟨rfl, rfl⟩) | (go_at_call 54; (with_reducible refine (Hda.out _ hva).mono ?_); rintro e w1 ⟨v1, rfl, hr1, hf1, hb1⟩) | (go_at_call 54; (with_reducible refine (Hdb.out _ hvb).mono ?_); rintro e w2 ⟨v2, rfl, hr2, hf2, hb2⟩) | (go_at_call 95; refine (refOrder_any _ _ _ _ _ hr2 (hr1.below hb2)).mono ?_; rintro e w3 ⟨rfl, hb3⟩))
  go_ret
  exact ⟨rfl, (hb1.trans (hb2.mono hb1.size)).trans (hb3.mono (Nat.le_trans hb1.size hb2.size))⟩
set_option maxRecDepth 100000 in
theorem refCompare_falsefalse (a b : ByteArray) (w : World) (hva : vld a.data.toList = true) (hvb : vld b.data.toList = true) (hsa : a.size ≤ maxLen) (hsb : b.size ≤ maxLen) (hx : negB a.data.toList = false) (hy : negB b.data.toList = false) :
    Calls Tryz.prog 67 #[.string a, .string b] w fun e w' => e = .returned (.int .i64 (cmpN (nS a).natAbs (nS b).natAbs)) ∧ Below w.heap.size w w' := by
  have hda := refDigitsN a
  have hdb := refDigitsN b
  rw [hx] at hda
  rw [hy] at hdb
  have Hda := Lib.hid hda
  have Hdb := Lib.hid hdb
  clear hda hdb hx hy
  go_enter Tryz.func67, Tryz.ntmps67
  go_wp2_with (first | (go_at_call 53; refine (refValid_any _ _ (by assumption)).mono ?_; rintro e w0 ⟨rfl, rfl⟩) | (go_at_call 54; (with_reducible refine (Hda.out _ hva).mono ?_); rintro e w1 ⟨v1, rfl, hr1, hf1, hb1⟩) | (go_at_call 54; (with_reducible refine (Hdb.out _ hvb).mono ?_); rintro e w2 ⟨v2, rfl, hr2, hf2, hb2⟩) | (go_at_call 95; refine (refOrder_any _ _ _ _ _ (hr1.below hb2) hr2).mono ?_; rintro e w3 ⟨rfl, hb3⟩))
  go_ret
  exact ⟨rfl, (hb1.trans (hb2.mono hb1.size)).trans (hb3.mono (Nat.le_trans hb1.size hb2.size))⟩
set_option maxRecDepth 100000 in
theorem refCompare_any (a b : ByteArray) (w : World) (hsa : a.size ≤ maxLen) (hsb : b.size ≤ maxLen) :
    Calls Tryz.prog 67 #[.string a, .string b] w fun e w' => e = .returned (.int .i64 (iCmp a b)) ∧ Below w.heap.size w w' := by
  by_cases ha : vS a = true
  · have hva : vld a.data.toList = true := ha
    by_cases hb : vS b = true
    · have hvb : vld b.data.toList = true := hb
      have e1 : iCmp a b = cmpI (nS a) (nS b) := by simp [iCmp, ha, hb]
      rw [e1]
      have hna := neg_iff ha
      have hnb := neg_iff hb
      have e2 : ∃ r, cmpI (nS a) (nS b) = r ∧ (negB a.data.toList = true → negB b.data.toList = false → r = -1) ∧ (negB a.data.toList = false → negB b.data.toList = true → r = 1) ∧
          (negB a.data.toList = true → negB b.data.toList = true → r = cmpN (nS b).natAbs (nS a).natAbs) ∧ (negB a.data.toList = false → negB b.data.toList = false → r = cmpN (nS a).natAbs (nS b).natAbs) := by
        refine ⟨_, rfl, ?_, ?_, ?_, ?_⟩
        · intro h1 h2
          have : ¬ nS b < 0 := fun h => by rw [hnb.2 h] at h2; cases h2
          exact (cmp_mixed (hna.1 h1) (by omega)).1
        · intro h1 h2
          have : ¬ nS a < 0 := fun h => by rw [hna.2 h] at h1; cases h1
          exact (cmp_mixed (hnb.1 h2) (by omega)).2
        · intro h1 h2
          rw [← cmp_sgn_neg]
          have := hna.1 h1; have := hnb.1 h2
          congr 1 <;> omega
        · intro h1 h2
          have : ¬ nS b < 0 := fun h => by rw [hnb.2 h] at h2; cases h2
          have : ¬ nS a < 0 := fun h => by rw [hna.2 h] at h1; cases h1
          rw [← cmp_sgn_pos]
          congr 1 <;> omega
      obtain ⟨r, hr, g1, g2, g3, g4⟩ := e2
      rw [hr]
      clear e1 ha hb hr hna hnb
      cases hx : negB a.data.toList <;> cases hy : negB b.data.toList
      · rw [g4 hx hy]; exact refCompare_falsefalse a b w hva hvb hsa hsb hx hy
      · rw [g2 hx hy]; exact refCompare_falsetrue a b w hva hvb hsa hsb hx hy
      · rw [g1 hx hy]; exact refCompare_truefalse a b w hva hvb hsa hsb hx hy
      · rw [g3 hx hy]; exact refCompare_truetrue a b w hva hvb hsa hsb hx hy
    · have hvb : vld b.data.toList = false := by simpa [vS] using hb
      have e1 : iCmp a b = 0 := by simp [iCmp, hb]
      rw [e1]
      clear e1 ha hb
      go_enter Tryz.func67, Tryz.ntmps67
      go_wp2_with (go_at_call 53; refine (refValid_any _ _ (by assumption)).mono ?_; rintro e w0 ⟨rfl, rfl⟩)
      go_ret
      exact ⟨rfl, Below.refl _ _⟩
  · have hva : vld a.data.toList = false := by simpa [vS] using ha
    have e1 : iCmp a b = 0 := by simp [iCmp, ha]
    rw [e1]
    clear e1 ha
    go_enter Tryz.func67, Tryz.ntmps67
    go_wp2_with (go_at_call 53; refine (refValid_any _ _ (by assumption)).mono ?_; rintro e w0 ⟨rfl, rfl⟩)
    go_ret
    exact ⟨rfl, Below.refl _ _⟩
end Go.Proofs.YtgeoidnleagloaaGreatDoor
