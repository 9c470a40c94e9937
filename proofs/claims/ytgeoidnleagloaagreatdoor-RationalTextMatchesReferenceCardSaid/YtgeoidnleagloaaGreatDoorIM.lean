/- Walks of package integer: sums of signed numbers. -/
import Derived.Test.YtgeoidnleagloaaGreatDoorIL
set_option linter.unusedVariables false
set_option linter.unusedSimpArgs false
namespace Go.Proofs.YtgeoidnleagloaaGreatDoor
open Go.RowKit Yk

set_option maxRecDepth 100000 in
theorem one_any (w : World) : Calls Tryz.prog 87 #[] w fun e w' => ∃ v, e = .returned v ∧ Rd encN w' v (digs 10000 1) ∧ From w.heap.size v ∧ Below w.heap.size w w' := by
  have e1 : digs 10000 1 = [1] := digs_digit (by decide) (by decide) (by decide)
  go_enter Tryz.func87, Tryz.ntmps87
  go_wp2
  go_ret
  refine ⟨_, rfl, ?_, fun k hk => by cases hk; exact Nat.le_refl _, (Below.refl _ w).alloc (Nat.le_refl _) _⟩
  rw [e1]
  exact (OwnL.lit1 w 1 rfl).rd

theorem cmpN_nonneg {x y : Nat} (h : y ≤ x) : 0 ≤ cmpN x y := by
  unfold cmpN
  rw [if_neg (by omega)]
  split <;> omega
/-- A signed number of value s comes back. -/
def SgPost (s : Int) (w : World) (e : Ending) (w' : World) : Prop :=
  ∃ neg z v, e = .returned (.agg #[.bool neg, v]) ∧ sgn neg z = s ∧ Rd encN w' v (digs 10000 z) ∧ From w.heap.size v ∧ Below w.heap.size w w'

set_option maxRecDepth 100000 in
set_option maxHeartbeats 1000000 in
theorem sgPlus_same (neg : Bool) (x y : Nat) (v1 v2 : Value) (w : World) (h1 : Rd encN w v1 (digs 10000 x)) (h2 : Rd encN w v2 (digs 10000 y)) (hx : (digs 10000 x).length ≤ 400) (hy : (digs 10000 y).length ≤ 400) :
    Calls Tryz.prog 90 #[.agg #[.bool neg, v1], .agg #[.bool neg, v2]] w (SgPost (sgn neg x + sgn neg y) w) := by
  have hfin : sgn neg (x + y) = sgn neg x + sgn neg y := by unfold sgn; split <;> omega
  rw [← hfin]
  obtain ⟨a1, k1, rfl, _⟩ := h1.open'
  obtain ⟨a2, k2, rfl, _⟩ := h2.open'
  obtain ⟨n1, e1⟩ : ∃ n, (digs 10000 x).length = n := ⟨_, rfl⟩
  obtain ⟨n2, e2⟩ : ∃ n, (digs 10000 y).length = n := ⟨_, rfl⟩
  have H1 := Lib.hid h1
  have H2 := Lib.hid h2
  have Hx := Lib.hid hx
  have Hy := Lib.hid hy
  rw [e1] at H1 ⊢
  rw [e2] at H2 ⊢
  have c1 : (neg == neg) = true := by simp
  clear h1 h2 hx hy e1 e2 hfin
  have hmx : Tryz.prog.follows .mixedOrders = true := by kernel_rfl
  have r1 : Blk (((w.alloc (.cells #[.bool neg, .slice a1 n1 k1] 100)).alloc (.cells #[.bool neg, .slice a2 n2 k2] 100)).alloc (.cells #[.bool false, .slice none 0 0] 100)) w.heap.size #[.bool neg, .slice a1 n1 k1] 100 := ((Blk.new w _ _).alloc _).alloc _
  have r2 : Blk (((w.alloc (.cells #[.bool neg, .slice a1 n1 k1] 100)).alloc (.cells #[.bool neg, .slice a2 n2 k2] 100)).alloc (.cells #[.bool false, .slice none 0 0] 100)) (w.heap.size + 1) #[.bool neg, .slice a2 n2 k2] 100 := (Blk.newAt _ _ _ (by simp)).alloc _
  have r3 : Blk (((w.alloc (.cells #[.bool neg, .slice a1 n1 k1] 100)).alloc (.cells #[.bool neg, .slice a2 n2 k2] 100)).alloc (.cells #[.bool false, .slice none 0 0] 100)) (w.heap.size + 1 + 1) #[.bool false, .slice none 0 0] 100 := Blk.newAt _ _ _ (by simp)
  have rb : Below w.heap.size w (((w.alloc (.cells #[.bool neg, .slice a1 n1 k1] 100)).alloc (.cells #[.bool neg, .slice a2 n2 k2] 100)).alloc (.cells #[.bool false, .slice none 0 0] 100)) := (((Below.refl _ w).alloc (Nat.le_refl _) _).alloc (by simp) _).alloc (by simp; omega) _
  have R1 := Lib.hid r1
  have R2 := Lib.hid r2
  have R3 := Lib.hid r3
  have RB := Lib.hid rb
  clear r1 r2 r3 rb
  go_enter Tryz.func90, Tryz.ntmps90
  go_wp2
  generalize (((w.alloc (.cells #[.bool neg, .slice a1 n1 k1] 100)).alloc (.cells #[.bool neg, .slice a2 n2 k2] 100)).alloc (.cells #[.bool false, .slice none 0 0] 100)) = W0 at *
  have ne1 : ¬ (w.heap.size + 1 + 1 = w.heap.size) := by omega
  have ne2 : ¬ (w.heap.size = w.heap.size + 1 + 1) := by omega
  obtain ⟨p1, p2, _, _, _⟩ := blk2 R1.out
  obtain ⟨q1, q2, _, _, _⟩ := blk2 R2.out
  go_region_held3 (fun w' => (w'.cell? ⟨w.heap.size, 0, none⟩ = some (.bool neg) ∧ w'.cell? ⟨w.heap.size, 1, none⟩ = some (.slice a1 n1 k1)) ∧ w'.cell? ⟨w.heap.size + 1, 1, none⟩ = some (.slice a2 n2 k2)) (go_keep)
    ((go_at_call 86; refine (numPlus_any x y _ _ _ (H1.out.below RB.out.drew) (H2.out.below RB.out.drew) (by have := Hx.out; have := Hy.out; omega) (by have := Hx.out; have := Hy.out; omega)).mono ?_
      rintro e w6 ⟨v6, rfl, hr6, hf6, hb6⟩
      obtain ⟨u1, u2, u3, u4, _⟩ := blk2 (Blk.below (w := W0.drew) R1.out hb6 R1.out.lt)
      obtain ⟨z1, z2, z3, z4, _⟩ := blk2 (Blk.below (w := W0.drew) R2.out hb6 R2.out.lt)
      obtain ⟨y1, y2, y3, y4, _⟩ := blk2 (Blk.below (w := W0.drew) R3.out hb6 R3.out.lt)
      obtain ⟨a6, k6, rfl, _⟩ := hr6.open'
      have HR6 := Lib.hid hr6
      have HF6 := Lib.hid (hf6.mono (show w.heap.size + 1 + 1 + 1 ≤ _ from R3.out.lt))
      have HB6 := Lib.hid (RB.out.drew.trans (hb6.mono RB.out.size))
      clear hr6 hf6 hb6))
  all_goals go_wp2
  all_goals
    refine bodyPost_ret (v := .agg #[.bool neg, .slice a6 _ k6]) (by simp [results, Tryz.results90, go_sem, y1, y2, y3, y4]) rfl ⟨neg, (x + y), _, rfl, rfl, ?_, HF6.out.mono (by omega), ?_⟩
    · exact (HR6.out.setCell HF6.out (by simp) _).setCell HF6.out (by simp) _
    · exact (HB6.out.setCell (by simp <;> omega) _).setCell (by simp <;> omega) _

set_option maxRecDepth 100000 in
set_option maxHeartbeats 1000000 in
theorem sgPlus_ge (neg1 neg2 : Bool) (hne : neg1 ≠ neg2) (x y : Nat) (hxy : y ≤ x) (v1 v2 : Value) (w : World) (h1 : Rd encN w v1 (digs 10000 x)) (h2 : Rd encN w v2 (digs 10000 y)) (hx : (digs 10000 x).length ≤ 400) (hy : (digs 10000 y).length ≤ 400) :
    Calls Tryz.prog 90 #[.agg #[.bool neg1, v1], .agg #[.bool neg2, v2]] w (SgPost (sgn neg1 x + sgn neg2 y) w) := by
  have hfin : sgn neg1 (x - y) = sgn neg1 x + sgn neg2 y := by revert hne; cases neg1 <;> cases neg2 <;> simp [sgn] <;> omega
  rw [← hfin]
  obtain ⟨a1, k1, rfl, _⟩ := h1.open'
  obtain ⟨a2, k2, rfl, _⟩ := h2.open'
  obtain ⟨n1, e1⟩ : ∃ n, (digs 10000 x).length = n := ⟨_, rfl⟩
  obtain ⟨n2, e2⟩ : ∃ n, (digs 10000 y).length = n := ⟨_, rfl⟩
  have H1 := Lib.hid h1
  have H2 := Lib.hid h2
  have Hx := Lib.hid hx
  have Hy := Lib.hid hy
  rw [e1] at H1 ⊢
  rw [e2] at H2 ⊢
  have c1 : (neg1 == neg2) = false := by simpa using hne
  obtain ⟨cv, hcv⟩ : ∃ c, cmpN x y = c := ⟨_, rfl⟩
  have c2 : 0 ≤ cv := by rw [← hcv]; exact cmpN_nonneg hxy
  have Hcm := Lib.hid hcv
  have Hxy := Lib.hid hxy
  clear hne hcv hxy
  clear h1 h2 hx hy e1 e2 hfin
  have hmx : Tryz.prog.follows .mixedOrders = true := by kernel_rfl
  have r1 : Blk (((w.alloc (.cells #[.bool neg1, .slice a1 n1 k1] 100)).alloc (.cells #[.bool neg2, .slice a2 n2 k2] 100)).alloc (.cells #[.bool false, .slice none 0 0] 100)) w.heap.size #[.bool neg1, .slice a1 n1 k1] 100 := ((Blk.new w _ _).alloc _).alloc _
  have r2 : Blk (((w.alloc (.cells #[.bool neg1, .slice a1 n1 k1] 100)).alloc (.cells #[.bool neg2, .slice a2 n2 k2] 100)).alloc (.cells #[.bool false, .slice none 0 0] 100)) (w.heap.size + 1) #[.bool neg2, .slice a2 n2 k2] 100 := (Blk.newAt _ _ _ (by simp)).alloc _
  have r3 : Blk (((w.alloc (.cells #[.bool neg1, .slice a1 n1 k1] 100)).alloc (.cells #[.bool neg2, .slice a2 n2 k2] 100)).alloc (.cells #[.bool false, .slice none 0 0] 100)) (w.heap.size + 1 + 1) #[.bool false, .slice none 0 0] 100 := Blk.newAt _ _ _ (by simp)
  have rb : Below w.heap.size w (((w.alloc (.cells #[.bool neg1, .slice a1 n1 k1] 100)).alloc (.cells #[.bool neg2, .slice a2 n2 k2] 100)).alloc (.cells #[.bool false, .slice none 0 0] 100)) := (((Below.refl _ w).alloc (Nat.le_refl _) _).alloc (by simp) _).alloc (by simp; omega) _
  have R1 := Lib.hid r1
  have R2 := Lib.hid r2
  have R3 := Lib.hid r3
  have RB := Lib.hid rb
  clear r1 r2 r3 rb
  go_enter Tryz.func90, Tryz.ntmps90
  go_wp2_with fail
  refine (compare_any x y _ _ _ (H1.out.below RB.out) (H2.out.below RB.out) (by have := Hx.out; omega)).mono ?_
  rw [Hcm.out]
  rintro e W0 ⟨rfl, hb0⟩
  have S1 := R1.out.below hb0 R1.out.lt
  have S2 := R2.out.below hb0 R2.out.lt
  have S3 := R3.out.below hb0 R3.out.lt
  have SB := RB.out.trans (hb0.mono RB.out.size)
  clear R1 R2 R3 RB hb0
  have R1 := Lib.hid S1
  have R2 := Lib.hid S2
  have R3 := Lib.hid S3
  have RB := Lib.hid SB
  clear S1 S2 S3 SB
  go_wp2
  have ne1 : ¬ (w.heap.size + 1 + 1 = w.heap.size) := by omega
  have ne2 : ¬ (w.heap.size = w.heap.size + 1 + 1) := by omega
  obtain ⟨p1, p2, _, _, _⟩ := blk2 R1.out
  obtain ⟨q1, q2, _, _, _⟩ := blk2 R2.out
  go_region_held3 (fun w' => (w'.cell? ⟨w.heap.size, 0, none⟩ = some (.bool neg1) ∧ w'.cell? ⟨w.heap.size, 1, none⟩ = some (.slice a1 n1 k1)) ∧ w'.cell? ⟨w.heap.size + 1, 1, none⟩ = some (.slice a2 n2 k2)) (go_keep)
    ((go_at_call 88; refine (numMinus_any x y Hxy.out _ _ _ (H1.out.below RB.out.drew) (H2.out.below RB.out.drew) (by have := Hx.out; have := Hy.out; omega) (by have := Hx.out; have := Hy.out; omega)).mono ?_
      rintro e w6 ⟨v6, rfl, hr6, hf6, hb6⟩
      obtain ⟨u1, u2, u3, u4, _⟩ := blk2 (Blk.below (w := W0.drew) R1.out hb6 R1.out.lt)
      obtain ⟨z1, z2, z3, z4, _⟩ := blk2 (Blk.below (w := W0.drew) R2.out hb6 R2.out.lt)
      obtain ⟨y1, y2, y3, y4, _⟩ := blk2 (Blk.below (w := W0.drew) R3.out hb6 R3.out.lt)
      obtain ⟨a6, k6, rfl, _⟩ := hr6.open'
      have HR6 := Lib.hid hr6
      have HF6 := Lib.hid (hf6.mono (show w.heap.size + 1 + 1 + 1 ≤ _ from R3.out.lt))
      have HB6 := Lib.hid (RB.out.drew.trans (hb6.mono RB.out.size))
      clear hr6 hf6 hb6))
  all_goals go_wp2
  all_goals
    refine bodyPost_ret (v := .agg #[.bool neg1, .slice a6 _ k6]) (by simp [results, Tryz.results90, go_sem, y1, y2, y3, y4]) rfl ⟨neg1, (x - y), _, rfl, rfl, ?_, HF6.out.mono (by omega), ?_⟩
    · exact (HR6.out.setCell HF6.out (by simp) _).setCell HF6.out (by simp) _
    · exact (HB6.out.setCell (by simp <;> omega) _).setCell (by simp <;> omega) _

set_option maxRecDepth 100000 in
set_option maxHeartbeats 1000000 in
theorem sgPlus_lt (neg1 neg2 : Bool) (hne : neg1 ≠ neg2) (x y : Nat) (hxy : x < y) (v1 v2 : Value) (w : World) (h1 : Rd encN w v1 (digs 10000 x)) (h2 : Rd encN w v2 (digs 10000 y)) (hx : (digs 10000 x).length ≤ 400) (hy : (digs 10000 y).length ≤ 400) :
    Calls Tryz.prog 90 #[.agg #[.bool neg1, v1], .agg #[.bool neg2, v2]] w (SgPost (sgn neg1 x + sgn neg2 y) w) := by
  have hfin : sgn neg2 (y - x) = sgn neg1 x + sgn neg2 y := by revert hne; cases neg1 <;> cases neg2 <;> simp [sgn] <;> omega
  rw [← hfin]
  obtain ⟨a1, k1, rfl, _⟩ := h1.open'
  obtain ⟨a2, k2, rfl, _⟩ := h2.open'
  obtain ⟨n1, e1⟩ : ∃ n, (digs 10000 x).length = n := ⟨_, rfl⟩
  obtain ⟨n2, e2⟩ : ∃ n, (digs 10000 y).length = n := ⟨_, rfl⟩
  have H1 := Lib.hid h1
  have H2 := Lib.hid h2
  have Hx := Lib.hid hx
  have Hy := Lib.hid hy
  rw [e1] at H1 ⊢
  rw [e2] at H2 ⊢
  have c1 : (neg1 == neg2) = false := by simpa using hne
  obtain ⟨cv, hcv⟩ : ∃ c, cmpN x y = c := ⟨_, rfl⟩
  have c2 : cv < 0 := by rw [← hcv]; unfold cmpN; rw [if_pos hxy]; omega
  have Hcm := Lib.hid hcv
  have Hxy := Lib.hid hxy
  clear hne hcv hxy
  clear h1 h2 hx hy e1 e2 hfin
  have hmx : Tryz.prog.follows .mixedOrders = true := by kernel_rfl
  have r1 : Blk (((w.alloc (.cells #[.bool neg1, .slice a1 n1 k1] 100)).alloc (.cells #[.bool neg2, .slice a2 n2 k2] 100)).alloc (.cells #[.bool false, .slice none 0 0] 100)) w.heap.size #[.bool neg1, .slice a1 n1 k1] 100 := ((Blk.new w _ _).alloc _).alloc _
  have r2 : Blk (((w.alloc (.cells #[.bool neg1, .slice a1 n1 k1] 100)).alloc (.cells #[.bool neg2, .slice a2 n2 k2] 100)).alloc (.cells #[.bool false, .slice none 0 0] 100)) (w.heap.size + 1) #[.bool neg2, .slice a2 n2 k2] 100 := (Blk.newAt _ _ _ (by simp)).alloc _
  have r3 : Blk (((w.alloc (.cells #[.bool neg1, .slice a1 n1 k1] 100)).alloc (.cells #[.bool neg2, .slice a2 n2 k2] 100)).alloc (.cells #[.bool false, .slice none 0 0] 100)) (w.heap.size + 1 + 1) #[.bool false, .slice none 0 0] 100 := Blk.newAt _ _ _ (by simp)
  have rb : Below w.heap.size w (((w.alloc (.cells #[.bool neg1, .slice a1 n1 k1] 100)).alloc (.cells #[.bool neg2, .slice a2 n2 k2] 100)).alloc (.cells #[.bool false, .slice none 0 0] 100)) := (((Below.refl _ w).alloc (Nat.le_refl _) _).alloc (by simp) _).alloc (by simp; omega) _
  have R1 := Lib.hid r1
  have R2 := Lib.hid r2
  have R3 := Lib.hid r3
  have RB := Lib.hid rb
  clear r1 r2 r3 rb
  go_enter Tryz.func90, Tryz.ntmps90
  go_wp2_with fail
  refine (compare_any x y _ _ _ (H1.out.below RB.out) (H2.out.below RB.out) (by have := Hx.out; omega)).mono ?_
  rw [Hcm.out]
  rintro e W0 ⟨rfl, hb0⟩
  have S1 := R1.out.below hb0 R1.out.lt
  have S2 := R2.out.below hb0 R2.out.lt
  have S3 := R3.out.below hb0 R3.out.lt
  have SB := RB.out.trans (hb0.mono RB.out.size)
  clear R1 R2 R3 RB hb0
  have R1 := Lib.hid S1
  have R2 := Lib.hid S2
  have R3 := Lib.hid S3
  have RB := Lib.hid SB
  clear S1 S2 S3 SB
  go_wp2
  have ne1 : ¬ (w.heap.size + 1 + 1 = w.heap.size) := by omega
  have ne2 : ¬ (w.heap.size = w.heap.size + 1 + 1) := by omega
  obtain ⟨p1, p2, _, _, _⟩ := blk2 R1.out
  obtain ⟨q1, q2, _, _, _⟩ := blk2 R2.out
  go_region_held3 (fun w' => (w'.cell? ⟨w.heap.size + 1, 0, none⟩ = some (.bool neg2) ∧ w'.cell? ⟨w.heap.size, 1, none⟩ = some (.slice a1 n1 k1)) ∧ w'.cell? ⟨w.heap.size + 1, 1, none⟩ = some (.slice a2 n2 k2)) (go_keep)
    ((go_at_call 88; refine (numMinus_any y x (Nat.le_of_lt Hxy.out) _ _ _ (H2.out.below RB.out.drew) (H1.out.below RB.out.drew) (by have := Hx.out; have := Hy.out; omega) (by have := Hx.out; have := Hy.out; omega)).mono ?_
      rintro e w6 ⟨v6, rfl, hr6, hf6, hb6⟩
      obtain ⟨u1, u2, u3, u4, _⟩ := blk2 (Blk.below (w := W0.drew) R1.out hb6 R1.out.lt)
      obtain ⟨z1, z2, z3, z4, _⟩ := blk2 (Blk.below (w := W0.drew) R2.out hb6 R2.out.lt)
      obtain ⟨y1, y2, y3, y4, _⟩ := blk2 (Blk.below (w := W0.drew) R3.out hb6 R3.out.lt)
      obtain ⟨a6, k6, rfl, _⟩ := hr6.open'
      have HR6 := Lib.hid hr6
      have HF6 := Lib.hid (hf6.mono (show w.heap.size + 1 + 1 + 1 ≤ _ from R3.out.lt))
      have HB6 := Lib.hid (RB.out.drew.trans (hb6.mono RB.out.size))
      clear hr6 hf6 hb6))
  all_goals go_wp2
  all_goals
    refine bodyPost_ret (v := .agg #[.bool neg2, .slice a6 _ k6]) (by simp [results, Tryz.results90, go_sem, y1, y2, y3, y4]) rfl ⟨neg2, (y - x), _, rfl, rfl, ?_, HF6.out.mono (by omega), ?_⟩
    · exact (HR6.out.setCell HF6.out (by simp) _).setCell HF6.out (by simp) _
    · exact (HB6.out.setCell (by simp <;> omega) _).setCell (by simp <;> omega) _

theorem sgPlus_any (neg1 neg2 : Bool) (x y : Nat) (v1 v2 : Value) (w : World) (h1 : Rd encN w v1 (digs 10000 x)) (h2 : Rd encN w v2 (digs 10000 y)) (hx : (digs 10000 x).length ≤ 400) (hy : (digs 10000 y).length ≤ 400) :
    Calls Tryz.prog 90 #[.agg #[.bool neg1, v1], .agg #[.bool neg2, v2]] w (SgPost (sgn neg1 x + sgn neg2 y) w) := by
  by_cases h : neg1 = neg2
  · subst h; exact sgPlus_same neg1 x y v1 v2 w h1 h2 hx hy
  · by_cases hxy : y ≤ x
    · exact sgPlus_ge neg1 neg2 h x y hxy v1 v2 w h1 h2 hx hy
    · exact sgPlus_lt neg1 neg2 h x y (by omega) v1 v2 w h1 h2 hx hy
end Go.Proofs.YtgeoidnleagloaaGreatDoor
