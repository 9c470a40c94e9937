/- Walks of the reference's integer functions: the operations on texts. -/
import Derived.Test.YtgeoidnleagloaaGreatDoorRI
import Derived.Test.YtgeoidnleagloaaGreatDoorRA
set_option linter.unusedVariables false
set_option linter.unusedSimpArgs false
namespace Go.Proofs.YtgeoidnleagloaaGreatDoor
open Go.RowKit Yk

/-- A text and an error's number, as two results. -/
abbrev vSE (r : SE) : Value := .tuple #[.string r.1, .int .i64 r.2]
theorem chkI_yes {n : Int} (h : n.natAbs < BIG) : chkI n = (ofI n, 0) := by simp [chkI, h]
theorem chkI_no {n : Int} (h : ¬ n.natAbs < BIG) : chkI n = (ByteArray.empty, 30) := by simp [chkI, h]

set_option maxRecDepth 100000 in
theorem refChecked_any (neg : Bool) (x : Nat) (v : Value) (w : World) (hv : Rd encN w v (digs 10 x)) (hx : (digs 10 x).length ≤ 1000) :
    Calls Tryz.prog 55 #[.bool neg, v] w fun e w' => e = .returned (vSE (chkI (sgn neg x))) ∧ Below w.heap.size w w' := by
  by_cases h : x < BIG
  · rw [chkI_yes (by rw [sgn_abs]; exact h)]
    have h2 : decide (x < BIG) = true := by simp [h]
    have Hc := Lib.hid (refText_any neg x v w hv hx)
    rw [h2] at Hc
    clear h h2 hv hx
    go_enter Tryz.func55, Tryz.ntmps55
    go_wp2_with (go_at_call 52; refine Hc.out.mono ?_; rintro e w1 ⟨rfl, hb⟩)
    go_ret2
    exact ⟨rfl, hb⟩
  · rw [chkI_no (by rw [sgn_abs]; exact h)]
    have h2 : decide (x < BIG) = false := by simp [h]
    have Hc := Lib.hid (refText_any neg x v w hv hx)
    rw [h2] at Hc
    clear h h2 hv hx
    go_enter Tryz.func55, Tryz.ntmps55
    go_wp2_with (go_at_call 52; refine Hc.out.mono ?_; rintro e w1 ⟨rfl, hb⟩)
    go_ret2
    exact ⟨rfl, hb⟩

theorem digs_len_of_lt {x k : Nat} (h : x < 10 ^ k) : (digs 10 x).length ≤ k := (digs_length_le (by decide) x k).2 h
theorem sum_len {x y : Nat} (h1 : (digs 10 x).length ≤ 200) (h2 : (digs 10 y).length ≤ 200) : (digs 10 (x + y)).length ≤ 1000 := by
  have h3 := (digs_length_le (B := 10) (by decide) x 200).1 h1
  have h4 := (digs_length_le (B := 10) (by decide) y 200).1 h2
  have h5 := digs_len_of_lt (x := x + y) (k := 201) (by rw [Nat.pow_succ]; omega)
  omega
theorem diff_len {x y : Nat} (h1 : (digs 10 x).length ≤ 200) : (digs 10 (x - y)).length ≤ 1000 := by
  have := digs_length_mono (B := 10) (by decide) (Nat.sub_le x y)
  omega
set_option maxRecDepth 100000 in
theorem refSum_any (x : Bool) (a : Nat) (va : Value) (y : Bool) (b : Nat) (vb : Value) (w : World) (ha : Rd encN w va (digs 10 a)) (hb : Rd encN w vb (digs 10 b)) (hx : (digs 10 a).length ≤ 200) (hy : (digs 10 b).length ≤ 200) :
    Calls Tryz.prog 91 #[.bool x, va, .bool y, vb] w fun e w' => e = .returned (vSE (chkI (sgn x a + sgn y b))) ∧ Below w.heap.size w w' := by
  have same : ∀ z : Bool, x = z → y = z → Calls Tryz.prog 91 #[.bool z, va, .bool z, vb] w fun e w' => e = .returned (vSE (chkI (sgn x a + sgn y b))) ∧ Below w.heap.size w w' := by
    rintro z rfl h
    have e1 : sgn x a + sgn y b = sgn x (a + b) := by rw [h]; cases x <;> simp [sgn] <;> omega
    rw [e1]
    clear h e1
    cases x
    all_goals
      go_enter Tryz.func91, Tryz.ntmps91
      go_wp2_with (first | (go_at_call 93; refine (refPlus_any a b _ _ _ ha hb (by omega) (by omega)).mono ?_; rintro e w1 ⟨v1, rfl, hr1, hf1, hb1⟩) | (go_at_call 55; refine (refChecked_any _ _ _ _ hr1 (sum_len hx hy)).mono ?_; rintro e w2 ⟨rfl, hb2⟩))
      go_ret2
      exact ⟨rfl, hb1.trans (hb2.mono hb1.size)⟩
  have other : ∀ z u : Bool, x = z → y = u → z ≠ u → Calls Tryz.prog 91 #[.bool z, va, .bool u, vb] w fun e w' => e = .returned (vSE (chkI (sgn x a + sgn y b))) ∧ Below w.heap.size w w' := by
    rintro z u rfl rfl hne
    by_cases hge : b ≤ a
    · have e1 : sgn x a + sgn y b = sgn x (a - b) := by cases x <;> cases y <;> simp [sgn] at hne ⊢ <;> omega
      rw [e1]
      have hcmp := cmpN_ge0 hge
      clear e1
      cases x <;> cases y <;> first | exact absurd rfl hne | skip
      all_goals
        clear hne
        go_enter Tryz.func91, Tryz.ntmps91
        go_wp2_with (first | (go_at_call 95; refine (refOrder_any a b _ _ _ ha hb).mono ?_; rintro e w0 ⟨rfl, hb0⟩) | (go_at_call 94; refine (refMinus_any a b hge _ _ _ (ha.below hb0) (hb.below hb0) (by omega)).mono ?_; rintro e w1 ⟨v1, rfl, hr1, hf1, hb1⟩) | (go_at_call 55; refine (refChecked_any _ _ _ _ hr1 (diff_len hx)).mono ?_; rintro e w2 ⟨rfl, hb2⟩))
        go_ret2
        exact ⟨rfl, (hb0.trans (hb1.mono hb0.size)).trans (hb2.mono (Nat.le_trans hb0.size hb1.size))⟩
    · have e1 : sgn x a + sgn y b = sgn y (b - a) := by cases x <;> cases y <;> simp [sgn] at hne ⊢ <;> omega
      rw [e1]
      have hcmp := cmpN_lt0 (show a < b by omega)
      clear e1
      cases x <;> cases y <;> first | exact absurd rfl hne | skip
      all_goals
        clear hne
        go_enter Tryz.func91, Tryz.ntmps91
        go_wp2_with (first | (go_at_call 95; refine (refOrder_any a b _ _ _ ha hb).mono ?_; rintro e w0 ⟨rfl, hb0⟩) | (go_at_call 94; refine (refMinus_any b a (by omega) _ _ _ (hb.below hb0) (ha.below hb0) (by omega)).mono ?_; rintro e w1 ⟨v1, rfl, hr1, hf1, hb1⟩) | (go_at_call 55; refine (refChecked_any _ _ _ _ hr1 (diff_len hy)).mono ?_; rintro e w2 ⟨rfl, hb2⟩))
        go_ret2
        exact ⟨rfl, (hb0.trans (hb1.mono hb0.size)).trans (hb2.mono (Nat.le_trans hb0.size hb1.size))⟩
  by_cases h : x = y
  · have := same x rfl h.symm
    rwa [← h] at this ⊢
  · exact other x y rfl rfl h
end Go.Proofs.YtgeoidnleagloaaGreatDoor
