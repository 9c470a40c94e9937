/- Walks of package rational: Valid. -/
import Derived.Test.YtgeoidnleagloaaGreatDoorIQ
import Derived.Test.YtgeoidnleagloaaGreatDoorPL
set_option linter.unusedVariables false
set_option linter.unusedSimpArgs false
namespace Go.Proofs.YtgeoidnleagloaaGreatDoor
open Go.RowKit Yk

theorem eq48 {s : ByteArray} (h : vS s = true) : (s.toList == [48]) = decide (nS s = 0) := by
  rw [Bool.eq_iff_iff, beq_iff_eq, decide_eq_true_eq, nS_zero_iff h, ba_toList]
  constructor
  · intro e; exact ba_ext (by rw [e])
  · intro e; rw [e]
theorem eq49 {s : ByteArray} (h : vS s = true) : (s.toList == [49]) = decide (nS s = 1) := by
  rw [Bool.eq_iff_iff, beq_iff_eq, decide_eq_true_eq, nS_one_iff h, ba_toList]
  constructor
  · intro e; exact ba_ext (by rw [e])
  · intro e; rw [e]
theorem vS_zero : vS ⟨#[48]⟩ = true := by decide
theorem vS_one : vS ⟨#[49]⟩ = true := by decide
theorem nS_zero' : nS ⟨#[48]⟩ = 0 := by rw [← ofI_zero, nS_ofI]
theorem nS_one' : nS ⟨#[49]⟩ = 1 := by rw [← ofI_one, nS_ofI]
theorem intValid_is {s : ByteArray} {b : Bool} (h : vS s = b) (w : World) (hs : s.size ≤ maxLen) : Calls Tryz.prog 49 #[.string s] w fun e w' => e = .returned (.bool b) ∧ Below w.heap.size w w' := by
  have := intValid_any s w hs; rwa [h] at this
theorem iCmp_zero {s : ByteArray} (h : vS s = true) : iCmp s ⟨#[48]⟩ = cmpI (nS s) 0 := by
  unfold iCmp; rw [if_pos (by simp [h, vS_zero]), nS_zero']
/-- A fraction as a value. -/
abbrev vR (a : RS) : Value := .agg #[.string a.1, .string a.2]
/-- A fraction and an error. -/
abbrev vRE (r : RS × Int) : Value := .tuple #[vR r.1, .int .i64 r.2]

set_option maxRecDepth 100000 in
theorem ratValid_any (a : RS) (w : World) (hg : Glob w) (hs1 : a.1.size ≤ maxLen) (hs2 : a.2.size ≤ maxLen) :
    Calls Tryz.prog 17 #[vR a] w fun e w' => e = .returned (.bool (rV a)) ∧ Below w.heap.size w w' := by
  obtain ⟨n, d⟩ := a
  simp only at hs1 hs2
  show Calls _ _ #[.agg #[.string n, .string d]] _ _
  have HR : Hid (∀ w1, Below (w.heap.size + 1) (w.alloc (.cells #[.string n, .string d] 23)) w1 → Blk w1 w.heap.size #[.string n, .string d] 23 ∧ Below w.heap.size w w1) :=
    Lib.hid fun w1 h1 => ⟨(Blk.new w _ _).below h1 (by omega), ((Below.refl _ w).alloc (Nat.le_refl _) _).trans (h1.mono (by omega))⟩
  cases hn : vS n with
  | false =>
    have hr : rV (n, d) = false := by simp [rV, hn]
    rw [hr]
    have H := Lib.hid (fun w => intValid_is hn w hs1)
    clear hn hr hs1 hs2 hg
    go_enter Tryz.func17, Tryz.ntmps17
    go_wp2_with fail
    (with_reducible refine (H.out _).mono ?_); rintro e w1 ⟨rfl, hb1⟩
    obtain ⟨_, hB⟩ := HR.out w1 (by simpa using hb1)
    clear hb1
    go_wp2
    go_ret
    exact ⟨rfl, hB⟩
  | true =>
    have H := Lib.hid (fun w => intValid_is hn w hs1)
    cases hd : vS d with
    | false =>
      have hr : rV (n, d) = false := by simp [rV, hd]
      rw [hr]
      have H2 := Lib.hid (fun w => intValid_is hd w hs2)
      clear hn hd hr hs1 hs2 hg
      go_enter Tryz.func17, Tryz.ntmps17
      go_wp2_with fail
      (with_reducible refine (H.out _).mono ?_); rintro e w1 ⟨rfl, hb1⟩
      have HB1 := Lib.hid (show Below (w.heap.size + 1) _ w1 by simpa using hb1)
      obtain ⟨r1, hB⟩ := HR.out w1 HB1.out
      obtain ⟨c1, c2, _, _, _⟩ := blk2 r1
      clear hb1 r1
      go_wp2_with fail
      (with_reducible refine (H2.out _).mono ?_); rintro e w2 ⟨rfl, hb2⟩
      have HB2 := Lib.hid (hB.trans (hb2.mono hB.size))
      clear hb2
      go_wp2
      go_ret
      exact ⟨rfl, HB2.out⟩
    | true =>
      have H2 := Lib.hid (fun w => intValid_is hd w hs2)
      have H3 := Lib.hid (fun w => intCompare_any d ⟨#[48]⟩ w hs2 (by decide))
      have H4 := Lib.hid (fun w hg => intGcd_any n d w hg hs1 hs2)
      rw [iCmp_zero hd] at H3
      obtain ⟨cv, hcv⟩ : ∃ c, cmpI (nS d) 0 = c := ⟨_, rfl⟩
      rw [hcv] at H3
      have Hg := Lib.hid hg
      by_cases h0 : 0 < nS d
      · have hc : ¬ cv ≤ 0 := by rw [← hcv]; unfold cmpI; rw [if_neg (by omega), if_pos h0]; omega
        have hgd : iGcd n d = (ofI (Int.gcd (nS n) (nS d)), 0) := by unfold iGcd; rw [if_pos (by simp [hn, hd])]
        rw [hgd] at H4
        have hsm : vS (ofI (Int.gcd (nS n) (nS d))) = true := vS_ofI (by
          rw [Int.natAbs_natCast]
          exact gcd_lt (nS_lt hn) (nS_lt hd))
        have heq := eq49 hsm
        rw [nS_ofI] at heq
        obtain ⟨g, hgs⟩ : ∃ g, ofI (Int.gcd (nS n) (nS d) : Int) = g := ⟨_, rfl⟩
        rw [hgs] at H4 heq
        have hr : rV (n, d) = (g.toList == [49]) := by
          rw [heq]
          simp only [rV, hn, hd, h0, decide_true, Bool.true_and]
          rw [decide_eq_decide]
          omega
        rw [hr]
        obtain ⟨bv, hbv⟩ : ∃ b, (g.toList == [49]) = b := ⟨_, rfl⟩
        rw [hbv]
        clear hn hd hr hs1 hs2 hg hcv hgd hsm heq hgs
        go_enter Tryz.func17, Tryz.ntmps17
        go_wp2_with fail
        (with_reducible refine (H.out _).mono ?_); rintro e w1 ⟨rfl, hb1⟩
        have HB1 := Lib.hid (show Below (w.heap.size + 1) (w.alloc (.cells #[.string n, .string d] 23)) w1 by simpa using hb1)
        obtain ⟨r1, hB⟩ := HR.out w1 HB1.out
        obtain ⟨c1, c2, _, _, _⟩ := blk2 r1
        have HB := Lib.hid hB
        clear hb1 r1 hB
        go_wp2_with fail
        (with_reducible refine (H2.out _).mono ?_); rintro e w2 ⟨rfl, hb2⟩
        have HB2 := Lib.hid (HB1.out.trans (hb2.mono (by simpa using HB1.out.size)))
        obtain ⟨r1, hB⟩ := HR.out w2 (by have := HB2.out; simpa using this)
        obtain ⟨d1, d2, _, _, _⟩ := blk2 r1
        clear hb2 r1 hB HB
        go_wp2_with fail
        (with_reducible refine (H3.out _).mono ?_); rintro e w3 ⟨rfl, hb3⟩
        have HB3 := Lib.hid (HB2.out.trans (hb3.mono (by simpa using HB2.out.size)))
        obtain ⟨r1, hB⟩ := HR.out w3 (by have := HB3.out; simpa using this)
        obtain ⟨e1, e2, _, _, _⟩ := blk2 r1
        have HB := Lib.hid hB
        clear hb3 r1 hB
        go_wp2_with fail
        (with_reducible refine (H4.out _ (Hg.out.below HB.out)).mono ?_); rintro e w4 ⟨rfl, hb4⟩
        have HB4 := Lib.hid (HB.out.trans (hb4.mono HB.out.size))
        clear hb4
        go_wp2
        go_ret
        exact ⟨rfl, HB4.out⟩
      · have hc : cv ≤ 0 := by { rw [← hcv]; unfold cmpI; split <;> omega }
        have hr : rV (n, d) = false := by simp [rV, h0]
        rw [hr]
        clear hn hd hr hs1 hs2 hg hcv h0 H4
        go_enter Tryz.func17, Tryz.ntmps17
        go_wp2_with fail
        (with_reducible refine (H.out _).mono ?_); rintro e w1 ⟨rfl, hb1⟩
        have HB1 := Lib.hid (show Below (w.heap.size + 1) (w.alloc (.cells #[.string n, .string d] 23)) w1 by simpa using hb1)
        obtain ⟨r1, hB⟩ := HR.out w1 HB1.out
        obtain ⟨c1, c2, _, _, _⟩ := blk2 r1
        clear hb1 r1 hB
        go_wp2_with fail
        (with_reducible refine (H2.out _).mono ?_); rintro e w2 ⟨rfl, hb2⟩
        have HB2 := Lib.hid (HB1.out.trans (hb2.mono (by simpa using HB1.out.size)))
        obtain ⟨r1, hB⟩ := HR.out w2 (by have := HB2.out; simpa using this)
        obtain ⟨d1, d2, _, _, _⟩ := blk2 r1
        clear hb2 r1 hB
        go_wp2_with fail
        (with_reducible refine (H3.out _).mono ?_); rintro e w3 ⟨rfl, hb3⟩
        have HB3 := Lib.hid (HB2.out.trans (hb3.mono (by simpa using HB2.out.size)))
        obtain ⟨r1, hB⟩ := HR.out w3 (by have := HB3.out; simpa using this)
        have HB := Lib.hid hB
        clear hb3 r1 hB
        go_wp2
        go_ret
        exact ⟨rfl, HB.out⟩
end Go.Proofs.YtgeoidnleagloaaGreatDoor
