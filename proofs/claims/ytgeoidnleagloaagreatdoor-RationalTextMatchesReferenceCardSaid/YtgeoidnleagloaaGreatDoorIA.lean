/- Walks of package integer: which strings are integers. -/
import Derived.Test.YtgeoidnleagloaaGreatDoorLW
set_option linter.unusedVariables false
set_option linter.unusedSimpArgs false
namespace Go.Proofs.YtgeoidnleagloaaGreatDoor
open Go.RowKit Yk

theorem body_le (l : List UInt8) : (body l).length ≤ l.length := by
  unfold body; split
  · rw [List.length_tail]; omega
  · exact Nat.le_refl _
theorem isEmpty_ba (t : ByteArray) : t.toList.isEmpty = decide (t.data.toList = []) := by
  rw [ba_toList]; cases t.data.toList <;> simp

theorem iv_zero {s : ByteArray} (h : s.toList = [48]) : true = vS s := by
  rw [ba_toList] at h
  unfold vS; rw [h]; decide
theorem iv_end {s t : ByteArray} (ht : t.data.toList = body s.data.toList) (h0 : 0 < t.size) (h1 : ¬ 200 < (body s.data.toList).length) (hd : (body s.data.toList).all dig = true) (hs : ¬ s.toList = [48]) :
    ((t[0].toNat : Int) != 48) = vS s := by
  have e : (body s.data.toList).head? = some t[0] := by rw [← ht, List.head?_eq_getElem?, ba_at t 0 h0]
  rw [ba_toList] at hs
  unfold vS
  rw [vld_rest (by intro e2; rw [e2] at e; simp at e) (by omega) (fun i c hc => (dig_iff c).1 (List.all_eq_true.1 hd c (List.mem_of_getElem? hc))), e]
  have e2 : decide (s.data.toList = [48]) = false := by simp [hs]
  rw [e2, Bool.false_or]
  by_cases e3 : t[0] = 48
  · simp [e3]
  · have e4 : t[0].toNat ≠ 48 := fun h => e3 (UInt8.toNat_inj.1 h)
    have e5 : ((t[0].toNat : Int) != 48) = true := by rw [bne_iff_ne]; omega
    simp [e3, e5]
theorem iv_bad {s : ByteArray} (h : ¬ (body s.data.toList).all dig = true) : false = vS s := by
  cases hv : vS s with
  | false => rfl
  | true =>
    have := (vld_parts hv).2.2.1
    exact absurd (List.all_eq_true.2 this) h

set_option maxRecDepth 100000 in
theorem isValid_any (s : ByteArray) (w : World) (hs : s.size ≤ maxLen) :
    Calls Tryz.prog 78 #[.string s] w fun e w' => e = .returned (.bool (vS s)) ∧ Below w.heap.size w w' := by
  have Hp := Lib.hid (libTrimPrefix s)
  have hbl := body_le s.data.toList
  rw [ba_len] at hbl
  by_cases h1 : body s.data.toList = []
  · have hv : vS s = false := vld_empty h1
    rw [hv]
    rw [h1] at Hp
    clear h1 hv hbl
    go_enter Tryz.func78, Tryz.ntmps78
    go_wp2_with (go_at_call 102; refine (Hp.out _).mono ?_; rintro e w1 ⟨t, rfl, ht, rfl⟩; have c1 : t.toList.isEmpty = true := by { rw [isEmpty_ba, ht]; rfl }; have Ht := Lib.hid ht; clear ht)
    go_ret
    exact ⟨rfl, Below.refl _ _⟩
  · by_cases h2 : 200 < (body s.data.toList).length
    · have hv : vS s = false := vld_long h2
      rw [hv]
      clear hv
      have H1 := Lib.hid h1; clear h1
      go_enter Tryz.func78, Tryz.ntmps78
      go_wp2_with (go_at_call 102; refine (Hp.out _).mono ?_; rintro e w1 ⟨t, rfl, ht, rfl⟩; have c1 : t.toList.isEmpty = false := by { rw [isEmpty_ba, ht]; simp [H1.out] }; rw [← ht, ba_len] at h2 hbl; have c2 : (200 : Int) < (t.size : Int) := by { omega }; have Ht := Lib.hid ht; clear ht h2)

      go_ret
      exact ⟨rfl, Below.refl _ _⟩
    · have Hm := Lib.hid (fun (t : ByteArray) (h : t.data.toList = body s.data.toList) => libTrimDigits t)
      by_cases h3 : (body s.data.toList).all dig = true
      · have H1 := Lib.hid h1; clear h1
        have H2 := Lib.hid h2
        have H3 := Lib.hid h3; clear h3
        by_cases h4 : s.toList = [48]
        · have Hz := Lib.hid (iv_zero h4)
          have c4 : (s.toList == [48]) = true := by simp [h4]
          clear h4
          go_enter Tryz.func78, Tryz.ntmps78
          go_wp2_with (first
            | (go_at_call 102; refine (Hp.out _).mono ?_; rintro e w1 ⟨t, rfl, ht, rfl⟩; have c1 : t.toList.isEmpty = false := by { rw [isEmpty_ba, ht]; simp [H1.out] }; have Ht := Lib.hid ht; rw [← ht, ba_len] at h2 hbl; have c2 : ¬ (200 : Int) < (t.size : Int) := by { omega }; clear ht h2)
            | (go_at_call 103; refine (Hm.out _ Ht.out _ (by unfold maxLen at *; omega)).mono ?_; rintro e w2 ⟨t2, rfl, ht2, hb2⟩; rw [Ht.out, H3.out] at ht2))
          go_ret
          exact ⟨ret_bool Hz.out, hb2⟩
        · have H4 := Lib.hid h4
          have c4 : (s.toList == [48]) = false := by simp [h4]
          clear h4
          go_enter Tryz.func78, Tryz.ntmps78
          go_wp2_with (first
            | (go_at_call 102; refine (Hp.out _).mono ?_; rintro e w1 ⟨t, rfl, ht, rfl⟩; have c1 : t.toList.isEmpty = false := by { rw [isEmpty_ba, ht]; simp [H1.out] }; have Ht := Lib.hid ht; have h5 : 0 < t.size := by { apply Nat.pos_of_ne_zero; intro e0; apply H1.out; rw [← ht]; exact List.eq_nil_of_length_eq_zero (by rw [ba_len]; exact e0) }; rw [← ht, ba_len] at h2 hbl; have c2 : ¬ (200 : Int) < (t.size : Int) := by { omega }; clear ht h2)
            | (go_at_call 103; refine (Hm.out _ Ht.out _ (by unfold maxLen at *; omega)).mono ?_; rintro e w2 ⟨t2, rfl, ht2, hb2⟩; rw [Ht.out, H3.out] at ht2))
          go_ret
          exact ⟨ret_bool (iv_end Ht.out h5 H2.out H3.out H4.out), hb2⟩
      · have H1 := Lib.hid h1; clear h1
        have Hz := Lib.hid (iv_bad h3)
        have H3 : Hid ((body s.data.toList).all dig = false) := by { show (body s.data.toList).all dig = false; exact Bool.eq_false_iff.2 h3 }
        clear h3
        go_enter Tryz.func78, Tryz.ntmps78
        go_wp2_with (first
          | (go_at_call 102; refine (Hp.out _).mono ?_; rintro e w1 ⟨t, rfl, ht, rfl⟩; have c1 : t.toList.isEmpty = false := by { rw [isEmpty_ba, ht]; simp [H1.out] }; have Ht := Lib.hid ht; rw [← ht, ba_len] at h2 hbl; have c2 : ¬ (200 : Int) < (t.size : Int) := by { omega }; clear ht h2)
          | (go_at_call 103; refine (Hm.out _ Ht.out _ (by unfold maxLen at *; omega)).mono ?_; rintro e w2 ⟨t2, rfl, ht2, hb2⟩; rw [Ht.out, H3.out] at ht2))
        go_ret
        exact ⟨ret_bool Hz.out, hb2⟩
set_option maxRecDepth 100000 in
theorem intValid_any (s : ByteArray) (w : World) (hs : s.size ≤ maxLen) :
    Calls Tryz.prog 49 #[.string s] w fun e w' => e = .returned (.bool (vS s)) ∧ Below w.heap.size w w' := by
  go_enter Tryz.func49, Tryz.ntmps49
  go_wp2_with (go_at_call 78; refine (isValid_any s _ hs).mono ?_; rintro e w1 ⟨rfl, hb⟩)
  go_ret
  exact ⟨rfl, hb⟩
end Go.Proofs.YtgeoidnleagloaaGreatDoor
