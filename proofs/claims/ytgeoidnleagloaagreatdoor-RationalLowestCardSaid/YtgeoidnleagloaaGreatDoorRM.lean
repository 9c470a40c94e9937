/- Walks of the reference's integer functions: division, the greatest common divisor. -/
import Derived.Test.YtgeoidnleagloaaGreatDoorRL
set_option linter.unusedVariables false
set_option linter.unusedSimpArgs false
namespace Go.Proofs.YtgeoidnleagloaaGreatDoor
open Go.RowKit Yk

theorem refDivided2 (x y : Nat) (hy0 : 0 < y) (va vb : Value) (w : World) (ha : Rd encN w va (digs 10 x)) (hb : Rd encN w vb (digs 10 y)) (hx : (digs 10 x).length ≤ 900) (hy : (digs 10 y).length ≤ 900) :
    Calls Tryz.prog 92 #[va, vb] w fun e w' => ∃ v1 a2 c2, e = .returned (.tuple #[v1, .slice a2 (digs 10 (x % y)).length c2]) ∧ Rd encN w' v1 (digs 10 (x / y)) ∧ Rd encN w' (.slice a2 (digs 10 (x % y)).length c2) (digs 10 (x % y)) ∧ Below w.heap.size w w' := by
  refine (refDivided_any x y hy0 va vb w ha hb hx hy).mono ?_
  rintro e w' ⟨v1, v2, rfl, h1, h2, _, _, h3⟩
  obtain ⟨a, c, rfl, _⟩ := h2.open'
  exact ⟨v1, a, c, rfl, h1, h2, h3⟩
theorem digs_one : digs 10 1 = [1] := digs_digit (by decide) (by decide) (by decide)
theorem zero_text {b : ByteArray} (h : vS b = true) : (b.toList == [48]) = decide (nS b = 0) := by
  rw [ba_toList]
  by_cases h0 : nS b = 0
  · have : b.data.toList = [48] := by
      have := itoa_toI h
      rw [show toI b.data.toList = 0 from h0] at this
      rw [← this]; decide +kernel
    simp [this, h0]
  · have : b.data.toList ≠ [48] := by
      intro e
      apply h0
      unfold nS; rw [e]; decide
    simp [this, h0]
theorem quo_small {x y : Nat} (hx : x < BIG) : x / y < BIG := Nat.lt_of_le_of_lt (Nat.div_le_self x y) hx
theorem quo_succ_small {x y : Nat} (hx : x < BIG) (hr : x % y ≠ 0) : x / y + 1 < BIG := by
  have h1 := zero_lt_BIG
  have h2 := Nat.div_add_mod x y
  have h3 := Nat.div_le_self x y
  have h6 := one_lt_BIG
  generalize BIG = K at *
  by_cases h4 : x / y = 0
  · omega
  · by_cases h5 : y ≤ 1
    · have : x % y = 0 ∨ y = 0 := by
        rcases (show y = 0 ∨ y = 1 by omega) with rfl | rfl
        · exact .inr rfl
        · exact .inl (Nat.mod_one x)
      rcases this with h | rfl
      · exact absurd h hr
      · simp at h4
    · have : 2 * (x / y) ≤ y * (x / y) := Nat.mul_le_mul_right _ (by omega)
      omega
set_option maxRecDepth 100000 in
set_option maxHeartbeats 400000 in
theorem refDiv_falseany (a b : ByteArray) (w : World) (ha : vS a = true) (hb : vS b = true) (hb0 : nS b ≠ 0) (hx : negB a.data.toList = false) :
    Calls Tryz.prog 66 #[.string a, .string b] w fun e w' => e = .returned (.tuple #[.string (ofI (sgn (negB b.data.toList) ((nS a).natAbs / (nS b).natAbs))), .string (ofI ((((nS a).natAbs % (nS b).natAbs : Nat) : Int))), .int .i64 0]) ∧ Below w.heap.size w w' := by
  have hn0 : 0 < (nS b).natAbs := by omega
  have hva : vld a.data.toList = true := ha
  have hvb : vld b.data.toList = true := hb
  have hsa : a.size ≤ maxLen := Nat.le_trans (vS_size ha) (by decide)
  have hsb : b.size ≤ maxLen := Nat.le_trans (vS_size hb) (by decide)
  have hla := digs_len_200 (nS_lt ha)
  have hlb := digs_len_200 (nS_lt hb)
  have hz : (b.toList == [48]) = false := by rw [zero_text hb]; simp [hb0]
  have hlr := digs_length_mono (B := 10) (by decide) (Nat.le_of_lt (Nat.mod_lt (nS a).natAbs hn0))
  have hmn := Nat.mod_lt (nS a).natAbs hn0
  have hlr2 := digs_length_mono (B := 10) (by decide) (show ((nS a).natAbs % (nS b).natAbs) ≤ (nS b).natAbs by omega)
  have hlq := digs_length_mono (B := 10) (by decide) (Nat.div_le_self (nS a).natAbs (nS b).natAbs)
  have hlq2 := digs_len_200 (quo_small (y := (nS b).natAbs) (nS_lt ha))
  have HQ := Lib.hid (chkI_yes (n := sgn (negB b.data.toList) ((nS a).natAbs / (nS b).natAbs)) (by rw [sgn_abs]; exact (quo_small (nS_lt ha))))
  have hda := refDigitsN a
  rw [hx] at hda
  have Hda := Lib.hid hda
  have Hmn := Lib.hid hmn
  clear hda hx ha hb hb0
  go_enter Tryz.func66, Tryz.ntmps66
  go_wp2_with (first
    | (go_at_call 53; refine (refValid_any _ _ (by assumption)).mono ?_; rintro e w0 ⟨rfl, rfl⟩)
    | (go_at_call 54; (with_reducible refine (Hda.out _ hva).mono ?_); rintro e w1 ⟨v1, rfl, hr1, hf1, hb1⟩)
    | (go_at_call 54; (with_reducible refine (refDigitsN b _ hvb).mono ?_); rintro e w2 ⟨v2, rfl, hr2, hf2, hb2⟩)
    | (go_at_call 92; refine (refDivided2 _ _ hn0 _ _ _ (hr1.below hb2) hr2 (by omega) (by omega)).mono ?_; rintro e w3 ⟨v3, a3, c3, rfl, hq3, hr3, hb3⟩)
    | (go_at_call 55; refine (refChecked_any _ _ _ _ hq3 (by omega)).mono ?_; rw [HQ.out]; rintro e w6 ⟨rfl, hb6⟩)
    | (go_at_call 52; refine (refText_any false _ _ _ (hr3.below hb6) (by omega)).mono ?_; rintro e w7 ⟨rfl, hb7⟩))
  go_ret3
  have s1 := hb1.size; have s2 := hb2.size; have s3 := hb3.size; have s6 := hb6.size
  exact ⟨rfl, ((((hb1.trans (hb2.mono hb1.size)).trans (hb3.mono (by omega))).trans (hb6.mono (by omega))).trans (hb7.mono (by omega)))⟩
set_option maxRecDepth 100000 in
set_option maxHeartbeats 400000 in
theorem refDiv_truezero (a b : ByteArray) (w : World) (ha : vS a = true) (hb : vS b = true) (hb0 : nS b ≠ 0) (hx : negB a.data.toList = true) (hr0 : (nS a).natAbs % (nS b).natAbs = 0) :
    Calls Tryz.prog 66 #[.string a, .string b] w fun e w' => e = .returned (.tuple #[.string (ofI (sgn (!negB b.data.toList) ((nS a).natAbs / (nS b).natAbs))), .string (ofI ((((nS a).natAbs % (nS b).natAbs : Nat) : Int))), .int .i64 0]) ∧ Below w.heap.size w w' := by
  have hn0 : 0 < (nS b).natAbs := by omega
  have hva : vld a.data.toList = true := ha
  have hvb : vld b.data.toList = true := hb
  have hsa : a.size ≤ maxLen := Nat.le_trans (vS_size ha) (by decide)
  have hsb : b.size ≤ maxLen := Nat.le_trans (vS_size hb) (by decide)
  have hla := digs_len_200 (nS_lt ha)
  have hlb := digs_len_200 (nS_lt hb)
  have hz : (b.toList == [48]) = false := by rw [zero_text hb]; simp [hb0]
  have hlr := digs_length_mono (B := 10) (by decide) (Nat.le_of_lt (Nat.mod_lt (nS a).natAbs hn0))
  have hmn := Nat.mod_lt (nS a).natAbs hn0
  have hlr2 := digs_length_mono (B := 10) (by decide) (show ((nS a).natAbs % (nS b).natAbs) ≤ (nS b).natAbs by omega)
  have hlq := digs_length_mono (B := 10) (by decide) (Nat.div_le_self (nS a).natAbs (nS b).natAbs)
  have hlq2 := digs_len_200 (quo_small (y := (nS b).natAbs) (nS_lt ha))
  have HQ := Lib.hid (chkI_yes (n := sgn (!negB b.data.toList) ((nS a).natAbs / (nS b).natAbs)) (by rw [sgn_abs]; exact (quo_small (nS_lt ha))))
  have hl0 : (digs 10 ((nS a).natAbs % (nS b).natAbs)).length ≤ 0 := by rw [hr0, digs_zero]; simp
  have hda := refDigitsN a
  rw [hx] at hda
  have Hda := Lib.hid hda
  have Hmn := Lib.hid hmn
  clear hda hx ha hb hb0 hr0
  go_enter Tryz.func66, Tryz.ntmps66
  go_wp2_with (first
    | (go_at_call 53; refine (refValid_any _ _ (by assumption)).mono ?_; rintro e w0 ⟨rfl, rfl⟩)
    | (go_at_call 54; (with_reducible refine (Hda.out _ hva).mono ?_); rintro e w1 ⟨v1, rfl, hr1, hf1, hb1⟩)
    | (go_at_call 54; (with_reducible refine (refDigitsN b _ hvb).mono ?_); rintro e w2 ⟨v2, rfl, hr2, hf2, hb2⟩)
    | (go_at_call 92; refine (refDivided2 _ _ hn0 _ _ _ (hr1.below hb2) hr2 (by omega) (by omega)).mono ?_; rintro e w3 ⟨v3, a3, c3, rfl, hq3, hr3, hb3⟩)
    | (go_at_call 55; refine (refChecked_any _ _ _ _ hq3 (by omega)).mono ?_; rw [HQ.out]; rintro e w6 ⟨rfl, hb6⟩)
    | (go_at_call 52; refine (refText_any false _ _ _ (hr3.below hb6) (by omega)).mono ?_; rintro e w7 ⟨rfl, hb7⟩))
  go_ret3
  have s1 := hb1.size; have s2 := hb2.size; have s3 := hb3.size; have s6 := hb6.size
  exact ⟨rfl, ((((hb1.trans (hb2.mono hb1.size)).trans (hb3.mono (by omega))).trans (hb6.mono (by omega))).trans (hb7.mono (by omega)))⟩
set_option maxRecDepth 100000 in
set_option maxHeartbeats 400000 in
theorem refDiv_truepos (a b : ByteArray) (w : World) (ha : vS a = true) (hb : vS b = true) (hb0 : nS b ≠ 0) (hx : negB a.data.toList = true) (hr0 : (nS a).natAbs % (nS b).natAbs ≠ 0) :
    Calls Tryz.prog 66 #[.string a, .string b] w fun e w' => e = .returned (.tuple #[.string (ofI (sgn (!negB b.data.toList) ((nS a).natAbs / (nS b).natAbs + 1))), .string (ofI ((((nS b).natAbs - (nS a).natAbs % (nS b).natAbs : Nat) : Int))), .int .i64 0]) ∧ Below w.heap.size w w' := by
  have hn0 : 0 < (nS b).natAbs := by omega
  have hva : vld a.data.toList = true := ha
  have hvb : vld b.data.toList = true := hb
  have hsa : a.size ≤ maxLen := Nat.le_trans (vS_size ha) (by decide)
  have hsb : b.size ≤ maxLen := Nat.le_trans (vS_size hb) (by decide)
  have hla := digs_len_200 (nS_lt ha)
  have hlb := digs_len_200 (nS_lt hb)
  have hz : (b.toList == [48]) = false := by rw [zero_text hb]; simp [hb0]
  have hlr := digs_length_mono (B := 10) (by decide) (Nat.le_of_lt (Nat.mod_lt (nS a).natAbs hn0))
  have hmn := Nat.mod_lt (nS a).natAbs hn0
  have hlr2 := digs_length_mono (B := 10) (by decide) (show ((nS b).natAbs - (nS a).natAbs % (nS b).natAbs) ≤ (nS b).natAbs by omega)
  have hlq := digs_length_mono (B := 10) (by decide) (Nat.div_le_self (nS a).natAbs (nS b).natAbs)
  have hlq2 := digs_len_200 (quo_succ_small (nS_lt ha) hr0)
  have HQ := Lib.hid (chkI_yes (n := sgn (!negB b.data.toList) ((nS a).natAbs / (nS b).natAbs + 1)) (by rw [sgn_abs]; exact (quo_succ_small (nS_lt ha) hr0)))
  have hl0 : 0 < (digs 10 ((nS a).natAbs % (nS b).natAbs)).length := List.length_pos_iff.2 (fun e => hr0 ((digs_eq_nil (by decide)).1 e))
  have hda := refDigitsN a
  rw [hx] at hda
  have Hda := Lib.hid hda
  have Hmn := Lib.hid hmn
  clear hda hx ha hb hb0 hr0
  go_enter Tryz.func66, Tryz.ntmps66
  go_wp2_with (first
    | (go_at_call 53; refine (refValid_any _ _ (by assumption)).mono ?_; rintro e w0 ⟨rfl, rfl⟩)
    | (go_at_call 54; (with_reducible refine (Hda.out _ hva).mono ?_); rintro e w1 ⟨v1, rfl, hr1, hf1, hb1⟩)
    | (go_at_call 54; (with_reducible refine (refDigitsN b _ hvb).mono ?_); rintro e w2 ⟨v2, rfl, hr2, hf2, hb2⟩)
    | (go_at_call 92; refine (refDivided2 _ _ hn0 _ _ _ (hr1.below hb2) hr2 (by omega) (by omega)).mono ?_; rintro e w3 ⟨v3, a3, c3, rfl, hq3, hr3, hb3⟩)
    | (go_at_call 93; refine (refPlus_any _ 1 _ _ _ (hq3.below ((Below.refl _ _).alloc (Nat.le_refl _) _)) (by rw [digs_one]; exact (OwnL.lit1 (e := 3) w3 1 rfl).rd) (by omega) (by rw [digs_one]; decide)).mono ?_; rintro e w4 ⟨v4, rfl, hq4, hf4, hb4⟩; have hb34 : Below w3.heap.size w3 w4 := ((Below.refl _ _).alloc (Nat.le_refl _) _).trans (hb4.mono (by simp)))
    | (go_at_call 94; refine (refMinus_any _ _ (by omega) _ _ _ ((hr2.below hb3).below hb34) (hr3.below hb34) (by omega)).mono ?_; rintro e w5 ⟨v5, rfl, hr5, hf5, hb5⟩)
    | (go_at_call 55; refine (refChecked_any _ _ _ _ (hq4.below hb5) (by omega)).mono ?_; rw [HQ.out]; rintro e w6 ⟨rfl, hb6⟩)
    | (go_at_call 52; refine (refText_any false _ _ _ (hr5.below hb6) (by omega)).mono ?_; rintro e w7 ⟨rfl, hb7⟩))
  go_ret3
  have s1 := hb1.size; have s2 := hb2.size; have s3 := hb3.size; have s4 := hb34.size; have s5 := hb5.size; have s6 := hb6.size
  exact ⟨rfl, ((((((hb1.trans (hb2.mono hb1.size)).trans (hb3.mono (by omega))).trans (hb34.mono (by omega))).trans (hb5.mono (by omega))).trans (hb6.mono (by omega))).trans (hb7.mono (by omega)))⟩
end Go.Proofs.YtgeoidnleagloaaGreatDoor
