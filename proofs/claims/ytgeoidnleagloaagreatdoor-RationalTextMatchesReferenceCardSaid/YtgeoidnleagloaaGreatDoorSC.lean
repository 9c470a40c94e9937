/- Walks of the reference's fractions: Compare. -/
import Derived.Test.YtgeoidnleagloaaGreatDoorSB
import Derived.Test.YtgeoidnleagloaaGreatDoorQF
set_option linter.unusedVariables false
set_option linter.unusedSimpArgs false
namespace Go.Proofs.YtgeoidnleagloaaGreatDoor
open Go.RowKit Yk

set_option maxRecDepth 100000 in
theorem zeroOr_yes (s : ByteArray) (h : (s.toList == [48]) = true) (w : World) : Calls Tryz.prog 68 #[.string s] w fun e w' => e = .returned (.string s) ∧ w = w' := by
  go_enter Tryz.func68, Tryz.ntmps68
  go_wp2
  go_ret
  exact ⟨rfl, rfl⟩
set_option maxRecDepth 100000 in
theorem zeroOr_no (s : ByteArray) (h : (s.toList == [48]) = false) (w : World) : Calls Tryz.prog 68 #[.string s] w fun e w' => e = .returned (.string ⟨#[49]⟩) ∧ w = w' := by
  go_enter Tryz.func68, Tryz.ntmps68
  go_wp2
  go_ret
  exact ⟨rfl, rfl⟩
/-- How large a text's number is. -/
def strNat (v : Value) : Nat := match v with | .string d => (nS d).natAbs | _ => 0
/-- What a round of 'Compare' keeps. -/
def CmpR (w : World) (res : Int) (vs vn vd vm vc : Value) (W : World) : Prop :=
  ∃ (s : Int) (n d m c : ByteArray), (vs = .int .i64 s ∧ vn = .string n ∧ vd = .string d ∧ vm = .string m ∧ vc = .string c) ∧
    ((s = 1 ∨ s = -1) ∧ (vS n = true ∧ vS d = true ∧ vS m = true ∧ vS c = true) ∧ 0 < nS d ∧ 0 < nS c ∧ s * cmpI (nS n * nS c) (nS m * nS d) = res) ∧ Below w.heap.size w W
theorem cmp01 : iCmp ⟨#[48]⟩ ⟨#[49]⟩ = -1 := by unfold iCmp; rw [if_pos (by decide), nS_zero', nS_one']; rfl
theorem cmp10 : iCmp ⟨#[49]⟩ ⟨#[48]⟩ = 1 := by unfold iCmp; rw [if_pos (by decide), nS_zero', nS_one']; rfl
theorem cmp00 : iCmp ⟨#[48]⟩ ⟨#[48]⟩ = 0 := by unfold iCmp; rw [if_pos (by decide), nS_zero']; rfl
set_option maxRecDepth 100000 in
set_option maxHeartbeats 1000000 in
theorem r4cmp_no1 (a1 a2 b1 b2 : ByteArray) (hva : rV (a1, a2) = false) (v : Bool) (hvb : rV (b1, b2) = v) (w : World) (ha : Sz (a1, a2)) (hb : Sz (b1, b2)) :
    Calls Tryz.prog 34 #[.agg #[.string a1, .string a2], .agg #[.string b1, .string b2]] w fun e w' => e = .returned (.int .i64 (rCmp (a1, a2) (b1, b2))) ∧ Below w.heap.size w w' := by
  have e0 : rCmp (a1, a2) (b1, b2) = 0 := by unfold rCmp; simp [*]
  rw [e0]
  have VA := Lib.hid (fun w => ref4Valid_is hva w ha)
  have VB := Lib.hid (fun w => ref4Valid_is hvb w hb)
  clear hva hvb ha hb e0
  have q0 : Blk ((w.alloc (.cells #[.string a1, .string a2] 23)).alloc (.cells #[.string b1, .string b2] 23)) (w.heap.size) #[.string a1, .string a2] 23 := (Blk.new w _ _).alloc _
  have q1 : Blk ((w.alloc (.cells #[.string a1, .string a2] 23)).alloc (.cells #[.string b1, .string b2] 23)) (w.heap.size + 1) #[.string b1, .string b2] 23 := Blk.newAt _ _ _ (by simp)
  have qL : Below w.heap.size w ((w.alloc (.cells #[.string a1, .string a2] 23)).alloc (.cells #[.string b1, .string b2] 23)) := ((Below.refl _ w).alloc (Nat.le_refl _) _).alloc (by simp <;> omega) _
  have A0 := Lib.hid q0
  have B0 := Lib.hid q1
  have L0 := Lib.hid qL
  clear qL q0 q1
  go_enter Tryz.func34, Tryz.ntmps34
  go_wp2_with fail
  try simp only [Nat.add_assoc, Nat.reduceAdd]
  generalize ((w.alloc (.cells #[.string a1, .string a2] 23)).alloc (.cells #[.string b1, .string b2] 23)) = w0 at *
  obtain ⟨a00, a01, a0f, a0g, a0l⟩ := blk2 A0.out
  obtain ⟨b00, b01, b0f, b0g, b0l⟩ := blk2 B0.out
  refine (VA.out _).mono ?_
  rintro e w1 ⟨rfl, hb1⟩
  have A1 := Lib.hid (Blk.below A0.out hb1 A0.out.lt)
  have B1 := Lib.hid (Blk.below B0.out hb1 B0.out.lt)
  have L1 := Lib.hid (L0.out.trans (hb1.mono L0.out.size))
  clear hb1
  obtain ⟨a10, a11, a1f, a1g, a1l⟩ := blk2 A1.out
  obtain ⟨b10, b11, b1f, b1g, b1l⟩ := blk2 B1.out
  go_wp2_with fail
  refine (VB.out _).mono ?_
  rintro e w2 ⟨rfl, hb2⟩
  have A2 := Lib.hid (Blk.below A1.out hb2 A1.out.lt)
  have B2 := Lib.hid (Blk.below B1.out hb2 B1.out.lt)
  have L2 := Lib.hid (L1.out.trans (hb2.mono L1.out.size))
  clear hb2
  obtain ⟨a20, a21, a2f, a2g, a2l⟩ := blk2 A2.out
  obtain ⟨b20, b21, b2f, b2g, b2l⟩ := blk2 B2.out
  cases v
  all_goals go_wp2
  all_goals go_ret
  all_goals exact ⟨rfl, L2.out⟩
set_option maxRecDepth 100000 in
set_option maxHeartbeats 1000000 in
theorem r4cmp_no2 (a1 a2 b1 b2 : ByteArray) (hva : rV (a1, a2) = true) (hvb : rV (b1, b2) = false) (w : World) (ha : Sz (a1, a2)) (hb : Sz (b1, b2)) :
    Calls Tryz.prog 34 #[.agg #[.string a1, .string a2], .agg #[.string b1, .string b2]] w fun e w' => e = .returned (.int .i64 (rCmp (a1, a2) (b1, b2))) ∧ Below w.heap.size w w' := by
  have e0 : rCmp (a1, a2) (b1, b2) = 0 := by unfold rCmp; simp [*]
  rw [e0]
  have VA := Lib.hid (fun w => ref4Valid_is hva w ha)
  have VB := Lib.hid (fun w => ref4Valid_is hvb w hb)
  clear hva hvb ha hb e0
  have q0 : Blk ((w.alloc (.cells #[.string a1, .string a2] 23)).alloc (.cells #[.string b1, .string b2] 23)) (w.heap.size) #[.string a1, .string a2] 23 := (Blk.new w _ _).alloc _
  have q1 : Blk ((w.alloc (.cells #[.string a1, .string a2] 23)).alloc (.cells #[.string b1, .string b2] 23)) (w.heap.size + 1) #[.string b1, .string b2] 23 := Blk.newAt _ _ _ (by simp)
  have qL : Below w.heap.size w ((w.alloc (.cells #[.string a1, .string a2] 23)).alloc (.cells #[.string b1, .string b2] 23)) := ((Below.refl _ w).alloc (Nat.le_refl _) _).alloc (by simp <;> omega) _
  have A0 := Lib.hid q0
  have B0 := Lib.hid q1
  have L0 := Lib.hid qL
  clear qL q0 q1
  go_enter Tryz.func34, Tryz.ntmps34
  go_wp2_with fail
  try simp only [Nat.add_assoc, Nat.reduceAdd]
  generalize ((w.alloc (.cells #[.string a1, .string a2] 23)).alloc (.cells #[.string b1, .string b2] 23)) = w0 at *
  obtain ⟨a00, a01, a0f, a0g, a0l⟩ := blk2 A0.out
  obtain ⟨b00, b01, b0f, b0g, b0l⟩ := blk2 B0.out
  refine (VA.out _).mono ?_
  rintro e w1 ⟨rfl, hb1⟩
  have A1 := Lib.hid (Blk.below A0.out hb1 A0.out.lt)
  have B1 := Lib.hid (Blk.below B0.out hb1 B0.out.lt)
  have L1 := Lib.hid (L0.out.trans (hb1.mono L0.out.size))
  clear hb1
  obtain ⟨a10, a11, a1f, a1g, a1l⟩ := blk2 A1.out
  obtain ⟨b10, b11, b1f, b1g, b1l⟩ := blk2 B1.out
  go_wp2_with fail
  refine (VB.out _).mono ?_
  rintro e w2 ⟨rfl, hb2⟩
  have A2 := Lib.hid (Blk.below A1.out hb2 A1.out.lt)
  have B2 := Lib.hid (Blk.below B1.out hb2 B1.out.lt)
  have L2 := Lib.hid (L1.out.trans (hb2.mono L1.out.size))
  clear hb2
  obtain ⟨a20, a21, a2f, a2g, a2l⟩ := blk2 A2.out
  obtain ⟨b20, b21, b2f, b2g, b2l⟩ := blk2 B2.out
  go_wp2
  go_ret
  exact ⟨rfl, L2.out⟩
set_option maxRecDepth 100000 in
set_option maxHeartbeats 2000000 in
theorem r4cmp_yes (a1 a2 b1 b2 : ByteArray) (hva : rV (a1, a2) = true) (hvb : rV (b1, b2) = true) (w : World) (ha : Sz (a1, a2)) (hb : Sz (b1, b2)) :
    Calls Tryz.prog 34 #[.agg #[.string a1, .string a2], .agg #[.string b1, .string b2]] w fun e w' => e = .returned (.int .i64 (rCmp (a1, a2) (b1, b2))) ∧ Below w.heap.size w w' := by
  have hr : rCmp (a1, a2) (b1, b2) = cmpI (nS a1 * nS b2) (nS b1 * nS a2) := by
    rw [rCmp_val hva hvb]; exact cmpQ_divInt (rV_parts hva).2.2.1 (rV_parts hvb).2.2.1
  rw [hr]
  obtain ⟨p1, p2, p3, _⟩ := rV_parts hva
  obtain ⟨p4, p5, p6, _⟩ := rV_parts hvb
  have HV0 : Hid (vS a1 = true ∧ vS a2 = true ∧ vS b1 = true ∧ vS b2 = true) := Lib.hid ⟨p1, p2, p4, p5⟩
  have HP0 : Hid (0 < nS a2 ∧ 0 < nS b2) := Lib.hid ⟨p3, p6⟩
  generalize hres : cmpI (nS a1 * nS b2) (nS b1 * nS a2) = res at *
  have HR0 : Hid (1 * cmpI (nS a1 * nS b2) (nS b1 * nS a2) = res) := Lib.hid (by rw [Int.one_mul]; exact hres)
  have VA := Lib.hid (fun w => ref4Valid_is hva w ha)
  have VB := Lib.hid (fun w => ref4Valid_is hvb w hb)
  clear hva hvb ha hb hr p1 p2 p3 p4 p5 p6 hres
  have q0 : Blk ((w.alloc (.cells #[.string a1, .string a2] 23)).alloc (.cells #[.string b1, .string b2] 23)) (w.heap.size) #[.string a1, .string a2] 23 := (Blk.new w _ _).alloc _
  have q1 : Blk ((w.alloc (.cells #[.string a1, .string a2] 23)).alloc (.cells #[.string b1, .string b2] 23)) (w.heap.size + 1) #[.string b1, .string b2] 23 := Blk.newAt _ _ _ (by simp)
  have qL : Below w.heap.size w ((w.alloc (.cells #[.string a1, .string a2] 23)).alloc (.cells #[.string b1, .string b2] 23)) := ((Below.refl _ w).alloc (Nat.le_refl _) _).alloc (by simp <;> omega) _
  have A0 := Lib.hid q0
  have B0 := Lib.hid q1
  have L0 := Lib.hid qL
  clear qL q0 q1
  go_enter Tryz.func34, Tryz.ntmps34
  go_wp2_with fail
  try simp only [Nat.add_assoc, Nat.reduceAdd]
  generalize ((w.alloc (.cells #[.string a1, .string a2] 23)).alloc (.cells #[.string b1, .string b2] 23)) = w0 at *
  obtain ⟨a00, a01, a0f, a0g, a0l⟩ := blk2 A0.out
  obtain ⟨b00, b01, b0f, b0g, b0l⟩ := blk2 B0.out
  refine (VA.out _).mono ?_
  rintro e w1 ⟨rfl, hb1⟩
  have A1 := Lib.hid (Blk.below A0.out hb1 A0.out.lt)
  have B1 := Lib.hid (Blk.below B0.out hb1 B0.out.lt)
  have L1 := Lib.hid (L0.out.trans (hb1.mono L0.out.size))
  clear hb1
  obtain ⟨a10, a11, a1f, a1g, a1l⟩ := blk2 A1.out
  obtain ⟨b10, b11, b1f, b1g, b1l⟩ := blk2 B1.out
  go_wp2_with fail
  refine (VB.out _).mono ?_
  rintro e w2 ⟨rfl, hb2⟩
  have A2 := Lib.hid (Blk.below A1.out hb2 A1.out.lt)
  have B2 := Lib.hid (Blk.below B1.out hb2 B1.out.lt)
  have L2 := Lib.hid (L1.out.trans (hb2.mono L1.out.size))
  clear hb2
  obtain ⟨a20, a21, a2f, a2g, a2l⟩ := blk2 A2.out
  obtain ⟨b20, b21, b2f, b2g, b2l⟩ := blk2 B2.out
  go_wp2
  go_loopw [7, 8, 9, 10, 11] (fun vs vn vd vm vc wr => CmpR w res vs vn vd vm vc wr) (fun _ _ vd _ _ _ => strNat vd)
  case atStart => exact ⟨1, a1, a2, b1, b2, ⟨rfl, rfl, rfl, rfl, rfl⟩, ⟨.inl rfl, HV0.out, HP0.out.1, HP0.out.2, HR0.out⟩, L2.out⟩
  case round =>
    clear A1 B1 A2 B2 L1 L2 A0 B0 L0 VA VB HV0 HP0 HR0
    obtain ⟨s, n, d, m, c, ⟨rfl, rfl, rfl, rfl, rfl⟩, ⟨hS, hV, p3, p6, hR⟩, hL⟩ := hrel
    have HS := Lib.hid hS
    have HV := Lib.hid hV
    have HL := Lib.hid hL
    have hq1 := vS_quo hV.1 hV.2.1 p3
    have hq2 := vS_quo hV.2.2.1 hV.2.2.2 p6
    have C1 : Hid (∀ W, Calls Tryz.prog 66 #[.string n, .string d] W fun e w' => e = .returned (.tuple #[.string (ofI (nS n / nS d)), .string (ofI (nS n % nS d)), .int .i64 0]) ∧ Below W.heap.size W w') := Lib.hid fun W => by
      have := refDiv_any n d W (size_vS HV.out.1) (size_vS HV.out.2.1)
      rwa [iDiv_yes HV.out.1 HV.out.2.1 (by omega)] at this
    have C2 : Hid (∀ W, Calls Tryz.prog 66 #[.string m, .string c] W fun e w' => e = .returned (.tuple #[.string (ofI (nS m / nS c)), .string (ofI (nS m % nS c)), .int .i64 0]) ∧ Below W.heap.size W w') := Lib.hid fun W => by
      have := refDiv_any m c W (size_vS HV.out.2.2.1) (size_vS HV.out.2.2.2)
      rwa [iDiv_yes HV.out.2.2.1 HV.out.2.2.2 (by omega)] at this
    have C3 : Hid (∀ W, Calls Tryz.prog 67 #[.string (ofI (nS n / nS d)), .string (ofI (nS m / nS c))] W fun e w' => e = .returned (.int .i64 (cmpI (nS n / nS d) (nS m / nS c))) ∧ Below W.heap.size W w') := Lib.hid fun W => by
      have := refCompare_any _ _ W (size_vS hq1.1) (size_vS hq2.1)
      unfold iCmp at this
      rwa [if_pos (by simp [hq1.1, hq2.1]), nS_ofI, nS_ofI] at this
    have E1 := eq48 hq1.2
    have E2 := eq48 hq2.2
    rw [nS_ofI] at E1 E2
    have VR := Lib.hid hq1.2
    have VS := Lib.hid hq2.2
    have HN := nS_ofI (nS n % nS d)
    have HM := nS_ofI (nS m % nS c)
    have HRd := cmp_round p3 p6 hR
    generalize ofI (nS n / nS d) = tq at *
    generalize ofI (nS n % nS d) = tr at *
    generalize ofI (nS m / nS c) = tp at *
    generalize ofI (nS m % nS c) = ts at *
    have hcv := cmpI_range (nS n / nS d) (nS m / nS c)
    generalize cmpI (nS n / nS d) (nS m / nS c) = cv at *
    have Hcv := Lib.hid hcv
    have E1' := Lib.hid E1
    have E2' := Lib.hid E2
    have HN' := Lib.hid HN
    have HM' := Lib.hid HM
    have HRd' := Lib.hid HRd
    have P3 := Lib.hid p3
    have P6 := Lib.hid p6
    clear hq1 hq2 E1 E2 HN HM HRd hcv p3 p6 hS hV hR hL
    go_wp2_with fail
    refine (C1.out _).mono ?_
    rintro e w1 ⟨rfl, hb1⟩
    have HB1 := Lib.hid (HL.out.trans (hb1.mono HL.out.size))
    clear hb1
    go_wp2_with fail
    refine (C2.out _).mono ?_
    rintro e w2 ⟨rfl, hb2⟩
    have HB2 := Lib.hid (HB1.out.trans (hb2.mono HB1.out.size))
    clear hb2
    go_wp2_with fail
    refine (C3.out _).mono ?_
    rintro e w3 ⟨rfl, hb3⟩
    have HB3 := Lib.hid (HB2.out.trans (hb3.mono HB2.out.size))
    clear hb3
    rcases Hcv.out with rfl | rfl | rfl
    · have Hq := Lib.hid (HRd'.out.1 (by decide))
      clear HRd' Hcv
      rcases HS.out with rfl | rfl
      · skip
        go_wp2
        go_ret
        exact ⟨ret_i64 Hq.out, HB3.out⟩
      · skip
        go_wp2
        go_ret
        exact ⟨ret_i64 Hq.out, HB3.out⟩
    · have HR0 := Lib.hid (HRd'.out.2 rfl)
      clear HRd' Hcv
      by_cases h1 : nS n % nS d = 0
      · have t1 : (tr.toList == [48]) = true := by rw [E1'.out]; simp [h1]
        have hz : tr = ⟨#[48]⟩ := (nS_zero_iff VR.out).1 (HN'.out.trans h1)
        by_cases h2 : nS m % nS c = 0
        · have t2 : (ts.toList == [48]) = true := by rw [E2'.out]; simp [h2]
          have hz2 : ts = ⟨#[48]⟩ := (nS_zero_iff VS.out).1 (HM'.out.trans h2)
          have Hq := Lib.hid (HR0.out.1 h1 h2)
          have Z1 := Lib.hid (zeroOr_yes tr t1)
          have Z2 := Lib.hid (zeroOr_yes ts t2)
          have CC : Hid (iCmp tr ts = 0) := Lib.hid (by rw [hz, hz2]; exact cmp00)
          clear h1 h2 hz hz2 HR0
          rcases HS.out with rfl | rfl
          · skip
            go_wp2_with fail
            refine (Z1.out _).mono ?_
            rintro e wx ⟨rfl, rfl⟩
            go_wp2_with fail
            refine (Z2.out _).mono ?_
            rintro e wx ⟨rfl, rfl⟩
            go_wp2_with fail
            refine (refCompare_any tr ts _ (by exact size_vS VR.out) (by exact size_vS VS.out)).mono ?_
            rw [CC.out]
            rintro e w4 ⟨rfl, hb4⟩
            have HB4 := Lib.hid (HB3.out.trans (hb4.mono HB3.out.size))
            clear hb4
            go_wp2
            go_ret
            exact ⟨ret_i64 Hq.out.symm, HB4.out⟩
          · skip
            go_wp2_with fail
            refine (Z1.out _).mono ?_
            rintro e wx ⟨rfl, rfl⟩
            go_wp2_with fail
            refine (Z2.out _).mono ?_
            rintro e wx ⟨rfl, rfl⟩
            go_wp2_with fail
            refine (refCompare_any tr ts _ (by exact size_vS VR.out) (by exact size_vS VS.out)).mono ?_
            rw [CC.out]
            rintro e w4 ⟨rfl, hb4⟩
            have HB4 := Lib.hid (HB3.out.trans (hb4.mono HB3.out.size))
            clear hb4
            go_wp2
            go_ret
            exact ⟨ret_i64 Hq.out.symm, HB4.out⟩
        · have t2 : (ts.toList == [48]) = false := by rw [E2'.out]; simp [h2]
          have Hq := Lib.hid (HR0.out.2.1 h1 h2)
          have Z1 := Lib.hid (zeroOr_yes tr t1)
          have Z2 := Lib.hid (zeroOr_no ts t2)
          have CC : Hid (iCmp tr ⟨#[49]⟩ = -1) := Lib.hid (by rw [hz]; exact cmp01)
          clear h1 h2 hz HR0
          rcases HS.out with rfl | rfl
          · skip
            go_wp2_with fail
            refine (Z1.out _).mono ?_
            rintro e wx ⟨rfl, rfl⟩
            go_wp2_with fail
            refine (Z2.out _).mono ?_
            rintro e wx ⟨rfl, rfl⟩
            go_wp2_with fail
            refine (refCompare_any tr ⟨#[49]⟩ _ (by exact size_vS VR.out) (by decide)).mono ?_
            rw [CC.out]
            rintro e w4 ⟨rfl, hb4⟩
            have HB4 := Lib.hid (HB3.out.trans (hb4.mono HB3.out.size))
            clear hb4
            go_wp2
            go_ret
            exact ⟨ret_i64 Hq.out.symm, HB4.out⟩
          · skip
            go_wp2_with fail
            refine (Z1.out _).mono ?_
            rintro e wx ⟨rfl, rfl⟩
            go_wp2_with fail
            refine (Z2.out _).mono ?_
            rintro e wx ⟨rfl, rfl⟩
            go_wp2_with fail
            refine (refCompare_any tr ⟨#[49]⟩ _ (by exact size_vS VR.out) (by decide)).mono ?_
            rw [CC.out]
            rintro e w4 ⟨rfl, hb4⟩
            have HB4 := Lib.hid (HB3.out.trans (hb4.mono HB3.out.size))
            clear hb4
            go_wp2
            go_ret
            exact ⟨ret_i64 Hq.out.symm, HB4.out⟩
      · have t1 : (tr.toList == [48]) = false := by rw [E1'.out]; simp [h1]
        by_cases h2 : nS m % nS c = 0
        · have t2 : (ts.toList == [48]) = true := by rw [E2'.out]; simp [h2]
          have hz2 : ts = ⟨#[48]⟩ := (nS_zero_iff VS.out).1 (HM'.out.trans h2)
          have Hq := Lib.hid (HR0.out.2.2.1 h1 h2)
          have Z1 := Lib.hid (zeroOr_no tr t1)
          have Z2 := Lib.hid (zeroOr_yes ts t2)
          have CC : Hid (iCmp ⟨#[49]⟩ ts = 1) := Lib.hid (by rw [hz2]; exact cmp10)
          clear h1 h2 hz2 HR0
          rcases HS.out with rfl | rfl
          · skip
            go_wp2_with fail
            refine (Z1.out _).mono ?_
            rintro e wx ⟨rfl, rfl⟩
            go_wp2_with fail
            refine (Z2.out _).mono ?_
            rintro e wx ⟨rfl, rfl⟩
            go_wp2_with fail
            refine (refCompare_any ⟨#[49]⟩ ts _ (by decide) (by exact size_vS VS.out)).mono ?_
            rw [CC.out]
            rintro e w4 ⟨rfl, hb4⟩
            have HB4 := Lib.hid (HB3.out.trans (hb4.mono HB3.out.size))
            clear hb4
            go_wp2
            go_ret
            exact ⟨ret_i64 Hq.out.symm, HB4.out⟩
          · skip
            go_wp2_with fail
            refine (Z1.out _).mono ?_
            rintro e wx ⟨rfl, rfl⟩
            go_wp2_with fail
            refine (Z2.out _).mono ?_
            rintro e wx ⟨rfl, rfl⟩
            go_wp2_with fail
            refine (refCompare_any ⟨#[49]⟩ ts _ (by decide) (by exact size_vS VS.out)).mono ?_
            rw [CC.out]
            rintro e w4 ⟨rfl, hb4⟩
            have HB4 := Lib.hid (HB3.out.trans (hb4.mono HB3.out.size))
            clear hb4
            go_wp2
            go_ret
            exact ⟨ret_i64 Hq.out.symm, HB4.out⟩
        · have t2 : (ts.toList == [48]) = false := by rw [E2'.out]; simp [h2]
          have hq := HR0.out.2.2.2 h1 h2
          rw [← HN'.out, ← HM'.out] at hq
          have Hq := Lib.hid hq
          clear h1 h2 HR0 hq
          rcases HS.out with rfl | rfl
          · go_wp2
            go_roundw
            case rel => exact ⟨-1, d, tr, c, ts, ⟨rfl, rfl, rfl, rfl, rfl⟩, ⟨.inr rfl, ⟨HV.out.2.1, VR.out, HV.out.2.2.2, VS.out⟩, Hq.out.2.1, Hq.out.2.2.1, Hq.out.1⟩, HB3.out⟩
            case measure => exact Hq.out.2.2.2
          · go_wp2
            go_roundw
            case rel => exact ⟨1, d, tr, c, ts, ⟨rfl, rfl, rfl, rfl, rfl⟩, ⟨.inl rfl, ⟨HV.out.2.1, VR.out, HV.out.2.2.2, VS.out⟩, Hq.out.2.1, Hq.out.2.2.1, Hq.out.1⟩, HB3.out⟩
            case measure => exact Hq.out.2.2.2
    · have Hq := Lib.hid (HRd'.out.1 (by decide))
      clear HRd' Hcv
      rcases HS.out with rfl | rfl
      · skip
        go_wp2
        go_ret
        exact ⟨ret_i64 Hq.out, HB3.out⟩
      · skip
        go_wp2
        go_ret
        exact ⟨ret_i64 Hq.out, HB3.out⟩
theorem ref4Compare_any (a b : RS) (w : World) (ha : Sz a) (hb : Sz b) : Calls Tryz.prog 34 #[vR a, vR b] w fun e w' => e = .returned (.int .i64 (rCmp a b)) ∧ Below w.heap.size w w' := by
  obtain ⟨a1, a2⟩ := a
  obtain ⟨b1, b2⟩ := b
  cases hva : rV (a1, a2) with
  | false => exact r4cmp_no1 a1 a2 b1 b2 hva _ rfl w ha hb
  | true =>
    cases hvb : rV (b1, b2) with
    | false => exact r4cmp_no2 a1 a2 b1 b2 hva hvb w ha hb
    | true => exact r4cmp_yes a1 a2 b1 b2 hva hvb w ha hb
end Go.Proofs.YtgeoidnleagloaaGreatDoor
