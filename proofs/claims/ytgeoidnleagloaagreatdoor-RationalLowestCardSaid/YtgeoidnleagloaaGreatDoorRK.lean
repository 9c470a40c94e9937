/- Walks of the reference's integer functions: the operations on texts. -/
import Derived.Test.YtgeoidnleagloaaGreatDoorRJ
set_option linter.unusedVariables false
set_option linter.unusedSimpArgs false
namespace Go.Proofs.YtgeoidnleagloaaGreatDoor
open Go.RowKit Yk

theorem refDigitsN (s : ByteArray) (w : World) (hs : vld s.data.toList = true) :
    Calls Tryz.prog 54 #[.string s] w fun e w' => ∃ v, e = .returned (.tuple #[.bool (negB s.data.toList), v]) ∧ Rd encN w' v (digs 10 (nS s).natAbs) ∧ From w.heap.size v ∧ Below w.heap.size w w' := refDigits_any s w hs

set_option maxRecDepth 100000 in
theorem refAdd_any (a b : ByteArray) (w : World) (hsa : a.size ≤ maxLen) (hsb : b.size ≤ maxLen) :
    Calls Tryz.prog 64 #[.string a, .string b] w fun e w' => e = .returned (vSE (iAdd a b)) ∧ Below w.heap.size w w' := by
  by_cases ha : vS a = true
  · have hva : vld a.data.toList = true := ha
    by_cases hb : vS b = true
    · have hvb : vld b.data.toList = true := hb
      have e1 : iAdd a b = chkI (sgn (negB a.data.toList) (nS a).natAbs + sgn (negB b.data.toList) (nS b).natAbs) := by
        rw [← nS_sgn, ← nS_sgn]; simp [iAdd, ha, hb]
      rw [e1]
      have hla := digs_len_200 (nS_lt ha)
      have hlb := digs_len_200 (nS_lt hb)
      clear e1 ha hb
      go_enter Tryz.func64, Tryz.ntmps64
      go_wp2_with (first | (go_at_call 53; refine (refValid_any _ _ (by assumption)).mono ?_; rintro e w0 ⟨rfl, rfl⟩) | (go_at_call 54; (with_reducible refine (refDigitsN a _ hva).mono ?_); rintro e w1 ⟨v1, rfl, hr1, hf1, hb1⟩) | (go_at_call 54; (with_reducible refine (refDigitsN b _ hvb).mono ?_); rintro e w2 ⟨v2, rfl, hr2, hf2, hb2⟩) | (go_at_call 91; refine (refSum_any _ _ _ _ _ _ _ (hr1.below hb2) hr2 hla hlb).mono ?_; rintro e w3 ⟨rfl, hb3⟩))
      go_ret2
      exact ⟨rfl, (hb1.trans (hb2.mono hb1.size)).trans (hb3.mono (Nat.le_trans hb1.size hb2.size))⟩
    · have hvb : vld b.data.toList = false := by simpa [vS] using hb
      have e1 : iAdd a b = (ByteArray.empty, 30) := by simp [iAdd, hb]
      rw [e1]
      clear e1 ha hb
      go_enter Tryz.func64, Tryz.ntmps64
      go_wp2_with (go_at_call 53; refine (refValid_any _ _ (by assumption)).mono ?_; rintro e w0 ⟨rfl, rfl⟩)
      go_ret2
      exact ⟨rfl, Below.refl _ _⟩
  · have hva : vld a.data.toList = false := by simpa [vS] using ha
    have e1 : iAdd a b = (ByteArray.empty, 30) := by simp [iAdd, ha]
    rw [e1]
    clear e1 ha
    go_enter Tryz.func64, Tryz.ntmps64
    go_wp2_with (go_at_call 53; refine (refValid_any _ _ (by assumption)).mono ?_; rintro e w0 ⟨rfl, rfl⟩)
    go_ret2
    exact ⟨rfl, Below.refl _ _⟩

theorem sgn_not (x : Bool) (n : Nat) : sgn (!x) n = -sgn x n := by cases x <;> simp [sgn]
set_option maxRecDepth 100000 in
theorem refSub_any (a b : ByteArray) (w : World) (hsa : a.size ≤ maxLen) (hsb : b.size ≤ maxLen) :
    Calls Tryz.prog 65 #[.string a, .string b] w fun e w' => e = .returned (vSE (iSub a b)) ∧ Below w.heap.size w w' := by
  by_cases ha : vS a = true
  · have hva : vld a.data.toList = true := ha
    by_cases hb : vS b = true
    · have hvb : vld b.data.toList = true := hb
      have e1 : iSub a b = chkI (sgn (negB a.data.toList) (nS a).natAbs + sgn (!(negB b.data.toList)) (nS b).natAbs) := by
        rw [sgn_not, ← nS_sgn, ← nS_sgn, ← Int.sub_eq_add_neg]; simp [iSub, ha, hb]
      rw [e1]
      have hla := digs_len_200 (nS_lt ha)
      have hlb := digs_len_200 (nS_lt hb)
      clear e1 ha hb
      go_enter Tryz.func65, Tryz.ntmps65
      go_wp2_with (first | (go_at_call 53; refine (refValid_any _ _ (by assumption)).mono ?_; rintro e w0 ⟨rfl, rfl⟩) | (go_at_call 54; (with_reducible refine (refDigitsN a _ hva).mono ?_); rintro e w1 ⟨v1, rfl, hr1, hf1, hb1⟩) | (go_at_call 54; (with_reducible refine (refDigitsN b _ hvb).mono ?_); rintro e w2 ⟨v2, rfl, hr2, hf2, hb2⟩) | (go_at_call 91; refine (refSum_any _ _ _ _ _ _ _ (hr1.below hb2) hr2 hla hlb).mono ?_; rintro e w3 ⟨rfl, hb3⟩))
      go_ret2
      exact ⟨rfl, (hb1.trans (hb2.mono hb1.size)).trans (hb3.mono (Nat.le_trans hb1.size hb2.size))⟩
    · have hvb : vld b.data.toList = false := by simpa [vS] using hb
      have e1 : iSub a b = (ByteArray.empty, 30) := by simp [iSub, hb]
      rw [e1]
      clear e1 ha hb
      go_enter Tryz.func65, Tryz.ntmps65
      go_wp2_with (go_at_call 53; refine (refValid_any _ _ (by assumption)).mono ?_; rintro e w0 ⟨rfl, rfl⟩)
      go_ret2
      exact ⟨rfl, Below.refl _ _⟩
  · have hva : vld a.data.toList = false := by simpa [vS] using ha
    have e1 : iSub a b = (ByteArray.empty, 30) := by simp [iSub, ha]
    rw [e1]
    clear e1 ha
    go_enter Tryz.func65, Tryz.ntmps65
    go_wp2_with (go_at_call 53; refine (refValid_any _ _ (by assumption)).mono ?_; rintro e w0 ⟨rfl, rfl⟩)
    go_ret2
    exact ⟨rfl, Below.refl _ _⟩

theorem sgn_mul (x y : Bool) (m n : Nat) : sgn (x != y) (m * n) = sgn x m * sgn y n := by cases x <;> cases y <;> simp [sgn, Int.neg_mul, Int.mul_neg]
theorem prod_lt {x y k : Nat} (h3 : x < 10 ^ k) (h4 : y < 10 ^ k) : (digs 10 (x * y)).length ≤ k + k := digs_len_of_lt (by rw [Nat.pow_add]; exact Nat.mul_lt_mul'' h3 h4)
theorem prod_len {x y : Nat} (h1 : (digs 10 x).length ≤ 200) (h2 : (digs 10 y).length ≤ 200) : (digs 10 (x * y)).length ≤ 1000 := by
  have h3 := (digs_length_le (B := 10) (by decide) x 200).1 h1
  have h4 := (digs_length_le (B := 10) (by decide) y 200).1 h2
  have h5 := prod_lt h3 h4
  omega
set_option maxRecDepth 100000 in
theorem refMul_any (a b : ByteArray) (w : World) (hsa : a.size ≤ maxLen) (hsb : b.size ≤ maxLen) :
    Calls Tryz.prog 21 #[.string a, .string b] w fun e w' => e = .returned (vSE (iMul a b)) ∧ Below w.heap.size w w' := by
  by_cases ha : vS a = true
  · have hva : vld a.data.toList = true := ha
    by_cases hb : vS b = true
    · have hvb : vld b.data.toList = true := hb
      have e1 : iMul a b = chkI (sgn ((negB a.data.toList) != (negB b.data.toList)) ((nS a).natAbs * (nS b).natAbs)) := by
        rw [sgn_mul, ← nS_sgn, ← nS_sgn]; simp [iMul, ha, hb]
      rw [e1]
      have hla := digs_len_200 (nS_lt ha)
      have hlb := digs_len_200 (nS_lt hb)
      clear e1 ha hb
      go_enter Tryz.func21, Tryz.ntmps21
      go_wp2_with (first | (go_at_call 53; refine (refValid_any _ _ (by assumption)).mono ?_; rintro e w0 ⟨rfl, rfl⟩) | (go_at_call 54; (with_reducible refine (refDigitsN a _ hva).mono ?_); rintro e w1 ⟨v1, rfl, hr1, hf1, hb1⟩) | (go_at_call 54; (with_reducible refine (refDigitsN b _ hvb).mono ?_); rintro e w2 ⟨v2, rfl, hr2, hf2, hb2⟩) | (go_at_call 56; refine (refTimes_any _ _ _ _ _ (hr1.below hb2) hr2 (by omega) (by omega)).mono ?_; rintro e w3 ⟨v3, rfl, hr3, hf3, hb3⟩) | (go_at_call 55; refine (refChecked_any _ _ _ _ hr3 (prod_len hla hlb)).mono ?_; rintro e w4 ⟨rfl, hb4⟩))
      go_ret2
      exact ⟨rfl, ((hb1.trans (hb2.mono hb1.size)).trans (hb3.mono (Nat.le_trans hb1.size hb2.size))).trans (hb4.mono (Nat.le_trans hb1.size (Nat.le_trans hb2.size hb3.size)))⟩
    · have hvb : vld b.data.toList = false := by simpa [vS] using hb
      have e1 : iMul a b = (ByteArray.empty, 30) := by simp [iMul, hb]
      rw [e1]
      clear e1 ha hb
      go_enter Tryz.func21, Tryz.ntmps21
      go_wp2_with (go_at_call 53; refine (refValid_any _ _ (by assumption)).mono ?_; rintro e w0 ⟨rfl, rfl⟩)
      go_ret2
      exact ⟨rfl, Below.refl _ _⟩
  · have hva : vld a.data.toList = false := by simpa [vS] using ha
    have e1 : iMul a b = (ByteArray.empty, 30) := by simp [iMul, ha]
    rw [e1]
    clear e1 ha
    go_enter Tryz.func21, Tryz.ntmps21
    go_wp2_with (go_at_call 53; refine (refValid_any _ _ (by assumption)).mono ?_; rintro e w0 ⟨rfl, rfl⟩)
    go_ret2
    exact ⟨rfl, Below.refl _ _⟩

end Go.Proofs.YtgeoidnleagloaaGreatDoor
