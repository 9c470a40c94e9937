/- Walks of the reference's integer functions over texts and lists of digits. -/
import Derived.WalkKit
import Derived.WalkSpells
import Derived.WalkLawsBesides
import Derived.Lib.Hide
import Derived.Test.YtgeoidnleagloaaGreatDoorProg
import Derived.Test.YtgeoidnleagloaaGreatDoorPL
set_option linter.unusedVariables false
set_option linter.unusedSimpArgs false
namespace Go.Proofs.YtgeoidnleagloaaGreatDoor
open Go.RowKit Yk

theorem ret_bool {a b : Bool} (h : a = b) : Ending.returned (.bool a) = .returned (.bool b) := by rw [h]

theorem rv_bad {s t : ByteArray} (ht : body s.data.toList = t.data.toList) {k : Nat} (hk : k < t.size) (h : (t[k].toNat : Int) < 48 ∨ 57 < (t[k].toNat : Int)) : false = vld s.data.toList :=
  (vld_not_digit (i := k) (c := t[k]) (by rw [ht]; exact ba_at t k hk) (by omega)).symm
theorem rv_end {s t : ByteArray} (ht : body s.data.toList = t.data.toList) (h0 : 0 < t.size) (h1 : t.size ≤ 200) (hd : ∀ (i : Nat) (h : i < t.size), 48 ≤ t[i].toNat ∧ t[i].toNat ≤ 57)
    (hz : s.data.toList = [48] ↔ t.toList = [48]) :
    (t.toList == [48] || ((t[0].toNat : Int) != 48)) = vld s.data.toList := by
  rw [vld_rest (by rw [ht]; intro e; have := ba_len t; rw [e] at this; simp at this; omega) (by rw [ht, ba_len]; exact h1) (by
    intro i c hc
    rw [ht] at hc
    have hi : i < t.size := by have := (List.getElem?_eq_some_iff.1 hc).1; rwa [ba_len] at this
    rw [ba_at t i hi] at hc
    cases hc
    exact hd i hi)]
  rw [ht, List.head?_eq_getElem?, ba_at t 0 h0]
  by_cases e1 : t.toList = [48]
  · simp [e1, hz.2 e1]
  · have e2 : ¬ s.data.toList = [48] := fun h => e1 (hz.1 h)
    simp only [e1, e2, decide_false, Bool.false_or, beq_eq_false_iff_ne.2 e1]
    by_cases e3 : t[0] = 48
    · simp [e3]
    · have e4 : t[0].toNat ≠ 48 := fun h => e3 (UInt8.toNat_inj.1 h)
      have e5 : ((t[0].toNat : Int) != 48) = true := by rw [bne_iff_ne]; omega
      simp [e3, e5]

theorem vld_neg_zero {l : List UInt8} (hh : l.head? = some 45) (h : body l = [48]) : false = vld l := by
  have : l ≠ [48] := by intro e; rw [e] at hh; simp at hh
  simp [vld, h, this]

set_option maxHeartbeats 400000 in
theorem refValid_any (s : ByteArray) (w : World) (hs : s.size ≤ maxLen) :
    Calls Tryz.prog 53 #[.string s] w fun e w' => e = .returned (.bool (vld s.data.toList)) ∧ w = w' := by
  unfold maxLen at hs
  by_cases h0 : 0 < s.size
  · by_cases h45 : s[0] = 45
    · have hhd : s.data.toList.head? = some 45 := by rw [List.head?_eq_getElem?, ba_at s 0 h0, h45]
      have c1 : ((s[0].toNat : Int) == 45) = true := by rw [h45]; decide
      obtain ⟨t, hx⟩ : ∃ t, s.extract 1 s.size = t := ⟨_, rfl⟩
      have ht : body s.data.toList = t.data.toList := by rw [← hx, body_neg hhd, ba_tail]
      have hts : t.size ≤ 9223372036854775807 := by rw [← hx]; simp; omega
      have hz : t.toList = [48] → false = vld s.data.toList := fun h => vld_neg_zero hhd (by rw [ht, ← ba_toList, h])
      have hz2 : ¬ t.toList = [48] → (s.data.toList = [48] ↔ t.toList = [48]) := fun h => ⟨fun e => by rw [e] at hhd; simp at hhd, fun e => absurd e h⟩
      have Ht := Lib.hid ht; clear ht
      clear h45 hhd
      by_cases c : t.toList = [48]
      · have Hz := Lib.hid (hz c); clear hz hz2
        have c2 : (t.toList == [48]) = true := by simp [c]
        clear c
        go_enter Tryz.func53, Tryz.ntmps53
        go_wp2
        go_ret
        exact ⟨ret_bool Hz.out, rfl⟩
      · have Hz := Lib.hid (hz2 c); clear hz hz2
        have c2 : (t.toList == [48]) = false := by simp [c]
        clear c
        go_enter Tryz.func53, Tryz.ntmps53
        go_wp2
        clear c1 c2 hx
        go_loop [3] (fun i => ∃ k : Nat, k ≤ t.size ∧ i = .int .i64 k ∧ ∀ (j : Nat) (h : j < t.size), j < k → 48 ≤ t[j].toNat ∧ t[j].toNat ≤ 57) (fun i => (t.size - intOf i).toNat)
        case atStart => exact ⟨0, by omega, rfl, by omega⟩
        case round =>
          obtain ⟨k, hk, rfl, hd⟩ := hrel
          have Hd := Lib.hid hd; clear hd
          go_wp2
          · go_ret
            exact ⟨ret_bool (rv_bad Ht.out ‹k < t.size› (by omega)), rfl⟩
          · go_round
            case rel =>
              refine ⟨k + 1, by omega, by go_num, fun j h hj => ?_⟩
              by_cases e : j < k
              · exact Hd.out j h e
              · obtain rfl : j = k := by omega
                omega
            case measure => simp [intOf]; omega
          · go_ret
            exact ⟨ret_bool (rv_bad Ht.out ‹k < t.size› (by omega)), rfl⟩
          · go_ret
            have e : t.toList = [48] := by assumption
            refine ⟨ret_bool ?_, rfl⟩
            rw [← rv_end Ht.out (by omega) (by omega) (fun j h => Hd.out j h (by omega)) Hz.out]
            simp [e]
          · go_ret
            exact ⟨ret_bool (rv_end Ht.out (by omega) (by omega) (fun j h => Hd.out j h (by omega)) Hz.out), rfl⟩
          · go_ret
            exact ⟨ret_bool (vld_long (by rw [Ht.out, ba_len]; omega)).symm, rfl⟩
          · go_ret
            exact ⟨ret_bool (vld_empty (by rw [Ht.out]; exact List.eq_nil_of_length_eq_zero (by rw [ba_len]; omega))).symm, rfl⟩
    · have hhd : s.data.toList.head? ≠ some 45 := by rw [List.head?_eq_getElem?, ba_at s 0 h0]; simpa using h45
      have c1 : ((s[0].toNat : Int) == 45) = false := by
        have : s[0].toNat ≠ 45 := fun h => h45 (UInt8.toNat_inj.1 h)
        rw [beq_eq_false_iff_ne]; omega
      have ht : body s.data.toList = s.data.toList := body_pos hhd
      have Ht := Lib.hid ht; clear ht
      have Hz := Lib.hid (show s.data.toList = [48] ↔ s.toList = [48] by rw [ba_toList]); clear hhd h45
      · go_enter Tryz.func53, Tryz.ntmps53
        go_wp2
        clear c1
        go_loop [3] (fun i => ∃ k : Nat, k ≤ s.size ∧ i = .int .i64 k ∧ ∀ (j : Nat) (h : j < s.size), j < k → 48 ≤ s[j].toNat ∧ s[j].toNat ≤ 57) (fun i => (s.size - intOf i).toNat)
        case atStart => exact ⟨0, by omega, rfl, by omega⟩
        case round =>
          obtain ⟨k, hk, rfl, hd⟩ := hrel
          have Hd := Lib.hid hd; clear hd
          go_wp2
          · go_ret
            exact ⟨ret_bool (rv_bad Ht.out ‹k < s.size› (by omega)), rfl⟩
          · go_round
            case rel =>
              refine ⟨k + 1, by omega, by go_num, fun j h hj => ?_⟩
              by_cases e : j < k
              · exact Hd.out j h e
              · obtain rfl : j = k := by omega
                omega
            case measure => simp [intOf]; omega
          · go_ret
            exact ⟨ret_bool (rv_bad Ht.out ‹k < s.size› (by omega)), rfl⟩
          · go_ret
            have e : s.toList = [48] := by assumption
            refine ⟨ret_bool ?_, rfl⟩
            rw [← rv_end Ht.out (by omega) (by omega) (fun j h => Hd.out j h (by omega)) Hz.out]
            simp [e]
          · go_ret
            exact ⟨ret_bool (rv_end Ht.out (by omega) (by omega) (fun j h => Hd.out j h (by omega)) Hz.out), rfl⟩
          · go_ret
            exact ⟨ret_bool (vld_long (by rw [Ht.out, ba_len]; omega)).symm, rfl⟩
  · obtain rfl : s = ByteArray.empty := ba_ext (by rw [List.eq_nil_of_length_eq_zero (l := s.data.toList) (by rw [ba_len]; omega)]; rfl)
    go_enter Tryz.func53, Tryz.ntmps53
    go_wp2
    go_loop [3] (fun i => i = .int .i64 0) (fun _ => 0)
    case atStart => rfl
    case round =>
      subst hrel
      go_wp2
      go_ret
      exact ⟨ret_bool (by decide), rfl⟩
end Go.Proofs.YtgeoidnleagloaaGreatDoor
