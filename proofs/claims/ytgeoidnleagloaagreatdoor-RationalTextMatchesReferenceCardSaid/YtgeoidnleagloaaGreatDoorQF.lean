/- Walks of package rational: Compare. -/
import Derived.Test.YtgeoidnleagloaaGreatDoorQE
import Derived.WalkMore
import Derived.ScopeJumps
import Derived.StillTailTactics
set_option linter.unusedVariables false
set_option linter.unusedSimpArgs false
namespace Go.Proofs.YtgeoidnleagloaaGreatDoor
open Go.RowKit Yk

theorem ratValid_is {a : RS} {v : Bool} (h : rV a = v) (w : World) (hg : Glob w) (hs : Sz a) : Calls Tryz.prog 17 #[.agg #[.string a.1, .string a.2]] w fun e w' => e = .returned (.bool v) ∧ Below w.heap.size w w' := by
  have := ratValid_any a w hg hs.1 hs.2; rwa [h] at this
/-- What holds at each jump. -/
def CmpJ (a1 a2 b1 b2 : ByteArray) (w : World) (res : Int) (a : Act) (W : World) : Prop :=
  ∃ (s : Int) (n d m c : ByteArray) (u6 u7 u8 u9 u10 u11 u12 u13 u14 u15 u16 u17 u18 u19 u20 u21 u22 u23 u24 u25 u26 u27 u28 u29 u30 u31 u32 u33 u34 u35 u36 u37 u38 u39 u40 u41 u42 u43 u44 u45 u46 u47 u48 u49 u50 u51 u52 u53 u54 u55 u56 u57 u58 u59 u60 u61 u62 u63 u64 u65 u66 u67 u68 u69 u70 u71 u72 u73 : Value), a = { tmps := #[.agg #[.string a1, .string a2], .agg #[.string b1, .string b2], .pointer (some ⟨w.heap.size, 0, none⟩), .pointer (some ⟨w.heap.size + 1, 0, none⟩), .int .i64 0, .int .i64 s, u6, u7, u8, u9, u10, u11, u12, u13, u14, u15, u16, u17, u18, u19, u20, u21, u22, u23, u24, u25, u26, u27, u28, u29, u30, u31, u32, u33, u34, u35, u36, u37, u38, u39, u40, u41, u42, u43, u44, u45, u46, u47, u48, u49, u50, u51, u52, u53, u54, u55, u56, u57, u58, u59, u60, u61, u62, u63, u64, u65, u66, u67, u68, u69, u70, u71, u72, u73], defers := [] } ∧
    ((s = 1 ∨ s = -1) ∧ (vS n = true ∧ vS d = true ∧ vS m = true ∧ vS c = true) ∧ 0 < nS d ∧ 0 < nS c ∧ s * cmpI (nS n * nS c) (nS m * nS d) = res) ∧
    (Blk W w.heap.size #[.string n, .string d] 23 ∧ Blk W (w.heap.size + 1) #[.string m, .string c] 23) ∧ Below w.heap.size w W
/-- How large the denominator still is. -/
def cmpM (h : Nat) (W : World) : Nat := match W.cell? ⟨h, 1, none⟩ with | some (.string d) => (nS d).natAbs | _ => 0
theorem cmpI_zero {x y : Int} : cmpI x y = 0 ↔ x = y := by
  unfold cmpI
  constructor
  · intro h; split at h
    · omega
    · split at h <;> omega
  · intro h; subst h; simp
theorem cmpI_range (x y : Int) : cmpI x y = -1 ∨ cmpI x y = 0 ∨ cmpI x y = 1 := by
  unfold cmpI; split
  · exact .inl rfl
  · split
    · exact .inr (.inr rfl)
    · exact .inr (.inl rfl)
/-- One round of the comparison. -/
theorem cmp_round {n d m c s res : Int} (hd : 0 < d) (hc : 0 < c) (h : s * cmpI (n * c) (m * d) = res) :
    (cmpI (n / d) (m / c) ≠ 0 → s * cmpI (n / d) (m / c) = res) ∧
    (cmpI (n / d) (m / c) = 0 → (n % d = 0 → m % c = 0 → res = 0) ∧ (n % d = 0 → m % c ≠ 0 → res = -s) ∧ (n % d ≠ 0 → m % c = 0 → res = s) ∧
      (n % d ≠ 0 → m % c ≠ 0 → -s * cmpI (d * (m % c)) (c * (n % d)) = res ∧ 0 < n % d ∧ 0 < m % c ∧ (n % d).natAbs < d.natAbs)) := by
  have b1 := Int.emod_nonneg n (show d ≠ 0 by omega)
  have b2 := Int.emod_lt_of_pos n hd
  have b3 := Int.emod_nonneg m (show c ≠ 0 by omega)
  constructor
  · intro h0
    rw [← h, cmp_whole hd hc (fun e => h0 (cmpI_zero.2 e))]
  · intro h0
    have e := cmpI_zero.1 h0
    rw [cmp_rest hd hc e] at h
    refine ⟨fun h1 h2 => ?_, fun h1 h2 => ?_, fun h1 h2 => ?_, fun h1 h2 => ⟨?_, by omega, by omega, by omega⟩⟩
    · rw [h1, h2, Int.zero_mul, Int.zero_mul, cmpI_self] at h; omega
    · rw [h1, cmp_zero_l c (by omega) hd] at h; omega
    · rw [h2, cmp_zero_r d (by omega) hc] at h; omega
    · rw [← h, cmp_turn (n % d) c (m % c) d, Int.neg_mul, Int.mul_neg]
theorem cmpM_eq {h : Nat} {W : World} {n d : ByteArray} {t : TypeId} (hb : Blk W h #[.string n, .string d] t) : cmpM h W = (nS d).natAbs := by
  unfold cmpM
  rw [hb.cell (i := 1) rfl]
  rfl

set_option maxRecDepth 100000 in
set_option maxHeartbeats 2000000 in
theorem ratCompare_yes (a b : RS) (hra : rV a = true) (hrb : rV b = true) (w : World) (hg : Glob w) (ha : Sz a) (hb : Sz b) : Calls Tryz.prog 23 #[vR a, vR b] w fun e w' => e = .returned (.int .i64 (rCmp a b)) ∧ Below w.heap.size w w' := by
  obtain ⟨a1, a2⟩ := a
  obtain ⟨b1, b2⟩ := b
  have Va := Lib.hid (fun w hg => ratValid_is hra w hg ha)
  have Vb := Lib.hid (fun w hg => ratValid_is hrb w hg hb)
  obtain ⟨p1, p2, p3, _⟩ := rV_parts hra
  obtain ⟨p4, p5, p6, _⟩ := rV_parts hrb
  have hr : rCmp (a1, a2) (b1, b2) = cmpI (nS a1 * nS b2) (nS b1 * nS a2) := by
    rw [rCmp_val hra hrb]; exact cmpQ_divInt p3 p6
  rw [hr]
  show Calls _ _ #[.agg #[.string a1, .string a2], .agg #[.string b1, .string b2]] _ _
  have Hg := Lib.hid hg
  have HL0' : Hid (vS a1 = true ∧ vS a2 = true ∧ vS b1 = true ∧ vS b2 = true) := Lib.hid ⟨p1, p2, p4, p5⟩
  simp only at p3 p6 Va Vb
  generalize hres : cmpI (nS a1 * nS b2) (nS b1 * nS a2) = res at *
  have Hres := Lib.hid hres
  clear hg ha hb hra hrb hr p1 p2 p4 p5 hres
  go_enter Tryz.func23, Tryz.ntmps23
  go_wp2
  refine wp_scope_jumps 0 (CmpJ a1 a2 b1 b2 w res) (fun _ W => cmpM w.heap.size W) rfl ?_ ?_
  · go_wp2_with fail
    refine (Va.out _ (Hg.out.below (((Below.refl _ w).alloc (Nat.le_refl _) _).alloc (by simp) _))).mono ?_
    rintro e x1 ⟨rfl, hb1⟩
    have N0 := Lib.hid (Blk.below (Blk.alloc (Blk.new w #[.string a1, .string a2] 23) (.cells #[.string b1, .string b2] 23)) hb1 (by simp <;> omega))
    have N3 := Lib.hid (Blk.below (Blk.newAt (w.alloc (.cells #[.string a1, .string a2] 23)) #[.string b1, .string b2] 23 (b := w.heap.size + 1) (by simp)) hb1 (by simp))
    have HL0 := Lib.hid ((((Below.refl _ w).alloc (Nat.le_refl _) _).alloc (by simp) _).trans (hb1.mono (by simp; omega)))
    clear hb1
    obtain ⟨g1, g2, _, _, _⟩ := blk2 N0.out
    obtain ⟨g3, g4, _, _, _⟩ := blk2 N3.out
    go_wp2_with fail
    refine (Vb.out _ (Hg.out.below HL0.out)).mono ?_
    rintro e x2 ⟨rfl, hb2⟩
    have N1 := Lib.hid (N0.out.below hb2 N0.out.lt)
    have N2 := Lib.hid (N3.out.below hb2 N3.out.lt)
    have HL := Lib.hid (HL0.out.trans (hb2.mono HL0.out.size))
    clear hb2 N0 N3
    obtain ⟨g5, g6, _, _, _⟩ := blk2 N1.out
    obtain ⟨g7, g8, _, _, _⟩ := blk2 N2.out
    go_wp2
    go_step3
    have HRES : Hid (1 * cmpI (nS a1 * nS b2) (nS b1 * nS a2) = res) := Lib.hid (by rw [Int.one_mul]; exact Hres.out)
    have HV := HL0'
    have hq1 := vS_quo HV.out.1 HV.out.2.1 p3
    have hq2 := vS_quo HV.out.2.2.1 HV.out.2.2.2 p6
    have C1 : Hid (∀ W, Glob W → Calls Tryz.prog 58 #[.string a1, .string a2] W fun e w' => e = .returned (.tuple #[.string (ofI (nS a1 / nS a2)), .string (ofI (nS a1 % nS a2)), .int .i64 0]) ∧ Below W.heap.size W w') := Lib.hid fun W hg => by
      have := intDiv_any a1 a2 W hg (size_vS HV.out.1) (size_vS HV.out.2.1)
      rwa [iDivYes HV.out.1 HV.out.2.1 (by omega)] at this
    have C2 : Hid (∀ W, Glob W → Calls Tryz.prog 58 #[.string b1, .string b2] W fun e w' => e = .returned (.tuple #[.string (ofI (nS b1 / nS b2)), .string (ofI (nS b1 % nS b2)), .int .i64 0]) ∧ Below W.heap.size W w') := Lib.hid fun W hg => by
      have := intDiv_any b1 b2 W hg (size_vS HV.out.2.2.1) (size_vS HV.out.2.2.2)
      rwa [iDivYes HV.out.2.2.1 HV.out.2.2.2 (by omega)] at this
    have C3 : Hid (∀ W, Calls Tryz.prog 50 #[.string (ofI (nS a1 / nS a2)), .string (ofI (nS b1 / nS b2))] W fun e w' => e = .returned (.int .i64 (cmpI (nS a1 / nS a2) (nS b1 / nS b2))) ∧ Below W.heap.size W w') := Lib.hid fun W => by
      have := intCompare_any _ _ W (size_vS hq1.1) (size_vS hq2.1)
      unfold iCmp at this
      rwa [if_pos (by simp [hq1.1, hq2.1]), nS_ofI, nS_ofI] at this
    have E1 := eq48 hq1.2
    have E2 := eq48 hq2.2
    rw [nS_ofI] at E1 E2
    have VR := Lib.hid hq1.2
    have VS := Lib.hid hq2.2
    have HN := nS_ofI (nS a1 % nS a2)
    have HM := nS_ofI (nS b1 % nS b2)
    have HRd := cmp_round p3 p6 HRES.out
    generalize ofI (nS a1 / nS a2) = tq at *
    generalize ofI (nS a1 % nS a2) = tr at *
    generalize ofI (nS b1 / nS b2) = tp at *
    generalize ofI (nS b1 % nS b2) = ts at *
    have hcv := cmpI_range (nS a1 / nS a2) (nS b1 / nS b2)
    generalize cmpI (nS a1 / nS a2) (nS b1 / nS b2) = cv at *
    have Hcv := Lib.hid hcv
    have E1' := Lib.hid E1
    have E2' := Lib.hid E2
    have HN' := Lib.hid HN
    have HM' := Lib.hid HM
    have HRd' := Lib.hid HRd
    have P3 := Lib.hid p3
    have P6 := Lib.hid p6
    clear hq1 hq2 E1 E2 HN HM HRd hcv p3 p6
    obtain ⟨d1, d2, _, _, _⟩ := blk2 N1.out
    obtain ⟨f1, f2, _, _, _⟩ := blk2 N2.out
    go_wp2_with fail
    refine (C1.out _ (Hg.out.below HL.out)).mono ?_
    rintro e w1 ⟨rfl, hb1⟩
    have M1 := Lib.hid (N1.out.below hb1 N1.out.lt)
    have M2 := Lib.hid (N2.out.below hb1 N2.out.lt)
    have HL1 := Lib.hid (HL.out.trans (hb1.mono HL.out.size))
    clear hb1 N1 N2
    obtain ⟨d3, d4, _, _, _⟩ := blk2 M1.out
    obtain ⟨f3, f4, _, _, _⟩ := blk2 M2.out
    go_wp2_with fail
    refine (C2.out _ (Hg.out.below HL1.out)).mono ?_
    rintro e w2 ⟨rfl, hb2⟩
    have N1 := Lib.hid (M1.out.below hb2 M1.out.lt)
    have N2 := Lib.hid (M2.out.below hb2 M2.out.lt)
    have HL2 := Lib.hid (HL1.out.trans (hb2.mono HL1.out.size))
    clear hb2 M1 M2
    go_wp2_with fail
    refine (C3.out _).mono ?_
    rintro e w3 ⟨rfl, hb3⟩
    have M1 := Lib.hid (N1.out.below hb3 N1.out.lt)
    have M2 := Lib.hid (N2.out.below hb3 N2.out.lt)
    have HL3 := Lib.hid (HL2.out.trans (hb3.mono HL2.out.size))
    clear hb3 N1 N2
    obtain ⟨d5, d6, d7, d8, _⟩ := blk2 M1.out
    obtain ⟨f5, f6, f7, f8, _⟩ := blk2 M2.out
    rcases Hcv.out with rfl | rfl | rfl
    · skip
      have hres := HRd'.out.1 (by decide)
      have Hq := Lib.hid hres
      clear hres
      go_wp2
      simp only [Exit.jump]
      go_ret
      exact ⟨ret_i64 Hq.out, HL3.out⟩
    · have HR0 := Lib.hid (HRd'.out.2 rfl)
      by_cases h1 : nS a1 % nS a2 = 0
      · have t1 : (tr.toList == [48]) = true := by rw [E1'.out]; simp [h1]
        by_cases h2 : nS b1 % nS b2 = 0
        · have t2 : (ts.toList == [48]) = true := by rw [E2'.out]; simp [h2]
          have Hq := Lib.hid (HR0.out.1 h1 h2)
          clear h1 h2
          go_wp2
          simp only [Exit.jump]
          go_ret
          exact ⟨ret_i64 Hq.out.symm, HL3.out⟩
        · have t2 : (ts.toList == [48]) = false := by rw [E2'.out]; simp [h2]
          have Hq := Lib.hid (HR0.out.2.1 h1 h2)
          clear h1 h2
          go_wp2
          simp only [Exit.jump]
          go_ret
          exact ⟨ret_i64 Hq.out.symm, HL3.out⟩
      · have t1 : (tr.toList == [48]) = false := by rw [E1'.out]; simp [h1]
        by_cases h2 : nS b1 % nS b2 = 0
        · have t2 : (ts.toList == [48]) = true := by rw [E2'.out]; simp [h2]
          have Hq := Lib.hid (HR0.out.2.2.1 h1 h2)
          clear h1 h2
          go_wp2
          simp only [Exit.jump]
          go_ret
          exact ⟨ret_i64 Hq.out.symm, HL3.out⟩
        · have t2 : (ts.toList == [48]) = false := by rw [E2'.out]; simp [h2]
          have Hq := Lib.hid (HR0.out.2.2.2 h1 h2)
          clear h1 h2
          have hmx : Tryz.prog.follows .mixedOrders = true := by kernel_rfl
          all_goals go_wp2
          all_goals go_region
          all_goals go_wp2
          all_goals go_step3
          all_goals
            have hA := Blk.drewN ((((Blk.set M1.out 0 (.string a2)).set 1 (.string tr)).setOther (a := ⟨w.heap.size + 1, 0, none⟩) (by simp) (.string b2)).setOther (a := ⟨w.heap.size + 1, 1, none⟩) (by simp) (.string ts)) 1
            have hC := Blk.drewN (((Blk.setOther M2.out (a := ⟨w.heap.size, 0, none⟩) (by simp) (.string a2)).setOther (a := ⟨w.heap.size, 1, none⟩) (by simp) (.string tr)).set 0 (.string b2) |>.set 1 (.string ts)) 1
            have hBl := ((((HL3.out.setCell (p := ⟨w.heap.size, 0, none⟩) (Nat.le_refl _) (.string a2)).setCell (p := ⟨w.heap.size, 1, none⟩) (Nat.le_refl _) (.string tr)).setCell (p := ⟨w.heap.size + 1, 0, none⟩) (Nat.le_succ _) (.string b2)).setCell (p := ⟨w.heap.size + 1, 1, none⟩) (Nat.le_succ _) (.string ts)).drew
            have hq := Hq.out
            have hJ := And.intro (And.intro VR.out (And.intro VS.out (And.intro HV.out.2.1 HV.out.2.2.2))) hq
            rw [← HN'.out, ← HM'.out] at hq
            exact ⟨rfl, ⟨_, _, _, _, _, _, _, _, _, _, _, _, _, _, _, _, _, _, _, _, _, _, _, _, _, _, _, _, _, _, _, _, _, _, _, _, _, _, _, _, _, _, _, _, _, _, _, _, _, _, _, _, _, _, _, _, _, _, _, _, _, _, _, _, _, _, _, _, _, _, _, _, _, rfl, ⟨.inr rfl, ⟨HV.out.2.1, VR.out, HV.out.2.2.2, VS.out⟩, hq.2.1, hq.2.2.1, hq.1⟩, ⟨hA, hC⟩, hBl⟩⟩
    · skip
      have hres := HRd'.out.1 (by decide)
      have Hq := Lib.hid hres
      clear hres
      go_wp2
      simp only [Exit.jump]
      go_ret
      exact ⟨ret_i64 Hq.out, HL3.out⟩
  · rintro a' w' ⟨s, n, d, m, c, u6, u7, u8, u9, u10, u11, u12, u13, u14, u15, u16, u17, u18, u19, u20, u21, u22, u23, u24, u25, u26, u27, u28, u29, u30, u31, u32, u33, u34, u35, u36, u37, u38, u39, u40, u41, u42, u43, u44, u45, u46, u47, u48, u49, u50, u51, u52, u53, u54, u55, u56, u57, u58, u59, u60, u61, u62, u63, u64, u65, u66, u67, u68, u69, u70, u71, u72, u73, rfl, ⟨hS, hV, p3', p6', hR⟩, ⟨hB1, hB2⟩, hL⟩
    have HS := Lib.hid hS
    have HV := Lib.hid hV
    have HRES := Lib.hid hR
    have CM := Lib.hid (cmpM_eq hB1)
    have N1 := Lib.hid hB1
    have N2 := Lib.hid hB2
    have HL := Lib.hid hL
    have p3 := p3'
    have p6 := p6'
    clear hS hV hR hB1 hB2 hL p3' p6'
    have hq1 := vS_quo HV.out.1 HV.out.2.1 p3
    have hq2 := vS_quo HV.out.2.2.1 HV.out.2.2.2 p6
    have C1 : Hid (∀ W, Glob W → Calls Tryz.prog 58 #[.string n, .string d] W fun e w' => e = .returned (.tuple #[.string (ofI (nS n / nS d)), .string (ofI (nS n % nS d)), .int .i64 0]) ∧ Below W.heap.size W w') := Lib.hid fun W hg => by
      have := intDiv_any n d W hg (size_vS HV.out.1) (size_vS HV.out.2.1)
      rwa [iDivYes HV.out.1 HV.out.2.1 (by omega)] at this
    have C2 : Hid (∀ W, Glob W → Calls Tryz.prog 58 #[.string m, .string c] W fun e w' => e = .returned (.tuple #[.string (ofI (nS m / nS c)), .string (ofI (nS m % nS c)), .int .i64 0]) ∧ Below W.heap.size W w') := Lib.hid fun W hg => by
      have := intDiv_any m c W hg (size_vS HV.out.2.2.1) (size_vS HV.out.2.2.2)
      rwa [iDivYes HV.out.2.2.1 HV.out.2.2.2 (by omega)] at this
    have C3 : Hid (∀ W, Calls Tryz.prog 50 #[.string (ofI (nS n / nS d)), .string (ofI (nS m / nS c))] W fun e w' => e = .returned (.int .i64 (cmpI (nS n / nS d) (nS m / nS c))) ∧ Below W.heap.size W w') := Lib.hid fun W => by
      have := intCompare_any _ _ W (size_vS hq1.1) (size_vS hq2.1)
      unfold iCmp at this
      rwa [if_pos (by simp [hq1.1, hq2.1]), nS_ofI, nS_ofI] at this
    have E1 := eq48 hq1.2
    have E2 := eq48 hq2.2
    rw [nS_ofI] at E1 E2
    have VR := Lib.hid hq1.2
    have VS := Lib.hid hq2.2
    have HN := nS_ofI (nS n % nS d)
    have HM := nS_ofI (nS m % nS c)
    have HRd := cmp_round p3 p6 HRES.out
    generalize ofI (nS n / nS d) = tq at *
    generalize ofI (nS n % nS d) = tr at *
    generalize ofI (nS m / nS c) = tp at *
    generalize ofI (nS m % nS c) = ts at *
    have hcv := cmpI_range (nS n / nS d) (nS m / nS c)
    generalize cmpI (nS n / nS d) (nS m / nS c) = cv at *
    have Hcv := Lib.hid hcv
    have E1' := Lib.hid E1
    have E2' := Lib.hid E2
    have HN' := Lib.hid HN
    have HM' := Lib.hid HM
    have HRd' := Lib.hid HRd
    have P3 := Lib.hid p3
    have P6 := Lib.hid p6
    clear hq1 hq2 E1 E2 HN HM HRd hcv p3 p6
    obtain ⟨d1, d2, _, _, _⟩ := blk2 N1.out
    obtain ⟨f1, f2, _, _, _⟩ := blk2 N2.out
    go_wp2_with fail
    refine (C1.out _ (Hg.out.below HL.out)).mono ?_
    rintro e w1 ⟨rfl, hb1⟩
    have M1 := Lib.hid (N1.out.below hb1 N1.out.lt)
    have M2 := Lib.hid (N2.out.below hb1 N2.out.lt)
    have HL1 := Lib.hid (HL.out.trans (hb1.mono HL.out.size))
    clear hb1 N1 N2
    obtain ⟨d3, d4, _, _, _⟩ := blk2 M1.out
    obtain ⟨f3, f4, _, _, _⟩ := blk2 M2.out
    go_wp2_with fail
    refine (C2.out _ (Hg.out.below HL1.out)).mono ?_
    rintro e w2 ⟨rfl, hb2⟩
    have N1 := Lib.hid (M1.out.below hb2 M1.out.lt)
    have N2 := Lib.hid (M2.out.below hb2 M2.out.lt)
    have HL2 := Lib.hid (HL1.out.trans (hb2.mono HL1.out.size))
    clear hb2 M1 M2
    go_wp2_with fail
    refine (C3.out _).mono ?_
    rintro e w3 ⟨rfl, hb3⟩
    have M1 := Lib.hid (N1.out.below hb3 N1.out.lt)
    have M2 := Lib.hid (N2.out.below hb3 N2.out.lt)
    have HL3 := Lib.hid (HL2.out.trans (hb3.mono HL2.out.size))
    clear hb3 N1 N2
    obtain ⟨d5, d6, d7, d8, _⟩ := blk2 M1.out
    obtain ⟨f5, f6, f7, f8, _⟩ := blk2 M2.out
    rcases Hcv.out with rfl | rfl | rfl
    · skip
      rcases HS.out with rfl | rfl
      · have hres := HRd'.out.1 (by decide)
        have Hq := Lib.hid hres
        clear hres
        go_wp2
        simp only [Exit.jump]
        go_ret
        exact ⟨ret_i64 Hq.out, HL3.out⟩
      · have hres := HRd'.out.1 (by decide)
        have Hq := Lib.hid hres
        clear hres
        go_wp2
        simp only [Exit.jump]
        go_ret
        exact ⟨ret_i64 Hq.out, HL3.out⟩
    · have HR0 := Lib.hid (HRd'.out.2 rfl)
      by_cases h1 : nS n % nS d = 0
      · have t1 : (tr.toList == [48]) = true := by rw [E1'.out]; simp [h1]
        by_cases h2 : nS m % nS c = 0
        · have t2 : (ts.toList == [48]) = true := by rw [E2'.out]; simp [h2]
          have Hq := Lib.hid (HR0.out.1 h1 h2)
          clear h1 h2
          go_wp2
          simp only [Exit.jump]
          go_ret
          exact ⟨ret_i64 Hq.out.symm, HL3.out⟩
        · have t2 : (ts.toList == [48]) = false := by rw [E2'.out]; simp [h2]
          have Hq := Lib.hid (HR0.out.2.1 h1 h2)
          clear h1 h2
          rcases HS.out with rfl | rfl
          · go_wp2
            simp only [Exit.jump]
            go_ret
            exact ⟨ret_i64 Hq.out.symm, HL3.out⟩
          · go_wp2
            simp only [Exit.jump]
            go_ret
            exact ⟨ret_i64 Hq.out.symm, HL3.out⟩
      · have t1 : (tr.toList == [48]) = false := by rw [E1'.out]; simp [h1]
        by_cases h2 : nS m % nS c = 0
        · have t2 : (ts.toList == [48]) = true := by rw [E2'.out]; simp [h2]
          have Hq := Lib.hid (HR0.out.2.2.1 h1 h2)
          clear h1 h2
          go_wp2
          simp only [Exit.jump]
          go_ret
          exact ⟨ret_i64 Hq.out.symm, HL3.out⟩
        · have t2 : (ts.toList == [48]) = false := by rw [E2'.out]; simp [h2]
          have Hq := Lib.hid (HR0.out.2.2.2 h1 h2)
          clear h1 h2
          have hmx : Tryz.prog.follows .mixedOrders = true := by kernel_rfl
          rcases HS.out with rfl | rfl
          all_goals go_wp2
          all_goals go_region
          all_goals go_wp2
          all_goals go_step3
          all_goals
            have hA := Blk.drewN ((((Blk.set M1.out 0 (.string d)).set 1 (.string tr)).setOther (a := ⟨w.heap.size + 1, 0, none⟩) (by simp) (.string c)).setOther (a := ⟨w.heap.size + 1, 1, none⟩) (by simp) (.string ts)) 1
            have hC := Blk.drewN (((Blk.setOther M2.out (a := ⟨w.heap.size, 0, none⟩) (by simp) (.string d)).setOther (a := ⟨w.heap.size, 1, none⟩) (by simp) (.string tr)).set 0 (.string c) |>.set 1 (.string ts)) 1
            have hBl := ((((HL3.out.setCell (p := ⟨w.heap.size, 0, none⟩) (Nat.le_refl _) (.string d)).setCell (p := ⟨w.heap.size, 1, none⟩) (Nat.le_refl _) (.string tr)).setCell (p := ⟨w.heap.size + 1, 0, none⟩) (Nat.le_succ _) (.string c)).setCell (p := ⟨w.heap.size + 1, 1, none⟩) (Nat.le_succ _) (.string ts)).drew
            have hq := Hq.out
            have hJ := And.intro (And.intro VR.out (And.intro VS.out (And.intro HV.out.2.1 HV.out.2.2.2))) hq
            rw [← HN'.out, ← HM'.out] at hq
            refine ⟨rfl, ⟨_, _, _, _, _, _, _, _, _, _, _, _, _, _, _, _, _, _, _, _, _, _, _, _, _, _, _, _, _, _, _, _, _, _, _, _, _, _, _, _, _, _, _, _, _, _, _, _, _, _, _, _, _, _, _, _, _, _, _, _, _, _, _, _, _, _, _, _, _, _, _, _, _, rfl, ⟨by first | exact .inl rfl | exact .inr rfl, ⟨HV.out.2.1, VR.out, HV.out.2.2.2, VS.out⟩, hq.2.1, hq.2.2.1, hq.1⟩, ⟨hA, hC⟩, hBl⟩, ?_⟩
            refine Nat.lt_of_le_of_lt (Nat.le_of_eq (cmpM_eq hA)) ?_
            rw [CM.out]
            exact hq.2.2.2
    · skip
      rcases HS.out with rfl | rfl
      · have hres := HRd'.out.1 (by decide)
        have Hq := Lib.hid hres
        clear hres
        go_wp2
        simp only [Exit.jump]
        go_ret
        exact ⟨ret_i64 Hq.out, HL3.out⟩
      · have hres := HRd'.out.1 (by decide)
        have Hq := Lib.hid hres
        clear hres
        go_wp2
        simp only [Exit.jump]
        go_ret
        exact ⟨ret_i64 Hq.out, HL3.out⟩

set_option maxRecDepth 100000 in
theorem ratCompare_any (a b : RS) (w : World) (hg : Glob w) (ha : Sz a) (hb : Sz b) : Calls Tryz.prog 23 #[vR a, vR b] w fun e w' => e = .returned (.int .i64 (rCmp a b)) ∧ Below w.heap.size w w' := by
  cases hra : rV a with
  | true =>
    cases hrb : rV b with
    | true => exact ratCompare_yes a b hra hrb w hg ha hb
    | false =>
      have hr : rCmp a b = 0 := by unfold rCmp; simp [hrb]
      rw [hr]
      obtain ⟨a1, a2⟩ := a
      obtain ⟨b1, b2⟩ := b
      show Calls _ _ #[.agg #[.string a1, .string a2], .agg #[.string b1, .string b2]] _ _
      have Va := Lib.hid (fun w hg => ratValid_is hra w hg ha)
      have Vb := Lib.hid (fun w hg => ratValid_is hrb w hg hb)
      simp only at Va Vb
      have Hg := Lib.hid hg
      clear hg ha hb hra hrb hr
      go_enter Tryz.func23, Tryz.ntmps23
      go_wp2
      refine wp_scope_jumps 0 (fun _ _ => False) (fun _ _ => 0) rfl ?_ (fun _ _ h => h.elim)
      go_wp2_with fail
      refine (Va.out _ (Hg.out.below (((Below.refl _ w).alloc (Nat.le_refl _) _).alloc (by simp) _))).mono ?_
      rintro e x1 ⟨rfl, hb1⟩
      have N3 := Lib.hid (Blk.below (Blk.newAt (w.alloc (.cells #[.string a1, .string a2] 23)) #[.string b1, .string b2] 23 (b := w.heap.size + 1) (by simp)) hb1 (by simp))
      have HL0 := Lib.hid ((((Below.refl _ w).alloc (Nat.le_refl _) _).alloc (by simp) _).trans (hb1.mono (by simp; omega)))
      clear hb1
      obtain ⟨g3, g4, _, _, _⟩ := blk2 N3.out
      go_wp2_with fail
      refine (Vb.out _ (Hg.out.below HL0.out)).mono ?_
      rintro e x2 ⟨rfl, hb2⟩
      have HL := Lib.hid (HL0.out.trans (hb2.mono HL0.out.size))
      clear hb2
      go_wp2
      simp only [Exit.jump]
      go_ret
      exact ⟨rfl, HL.out⟩
  | false =>
    have hr : rCmp a b = 0 := by unfold rCmp; simp [hra]
    rw [hr]
    obtain ⟨a1, a2⟩ := a
    obtain ⟨b1, b2⟩ := b
    show Calls _ _ #[.agg #[.string a1, .string a2], .agg #[.string b1, .string b2]] _ _
    have Va := Lib.hid (fun w hg => ratValid_is hra w hg ha)
    simp only at Va
    have Hg := Lib.hid hg
    clear hg ha hb hra hr
    go_enter Tryz.func23, Tryz.ntmps23
    go_wp2
    refine wp_scope_jumps 0 (fun _ _ => False) (fun _ _ => 0) rfl ?_ (fun _ _ h => h.elim)
    go_wp2_with fail
    refine (Va.out _ (Hg.out.below (((Below.refl _ w).alloc (Nat.le_refl _) _).alloc (by simp) _))).mono ?_
    rintro e x1 ⟨rfl, hb1⟩
    have HL0 := Lib.hid ((((Below.refl _ w).alloc (Nat.le_refl _) _).alloc (by simp) _).trans (hb1.mono (by simp; omega)))
    clear hb1
    go_wp2
    simp only [Exit.jump]
    go_ret
    exact ⟨rfl, HL0.out⟩
end Go.Proofs.YtgeoidnleagloaaGreatDoor
