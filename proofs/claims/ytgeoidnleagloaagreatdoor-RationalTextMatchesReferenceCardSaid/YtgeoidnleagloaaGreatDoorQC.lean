/- Walks of package rational: two integers reduced. -/
import Derived.Test.YtgeoidnleagloaaGreatDoorQB
set_option linter.unusedVariables false
set_option linter.unusedSimpArgs false
namespace Go.Proofs.YtgeoidnleagloaaGreatDoor
open Go.RowKit Yk

theorem chkI_fits {s : Int} (h : small s = true) : chkI s = (ofI s, 0) := chkI_ok (small_iff.1 h)
theorem do_neg {n : ByteArray} (h : vS n = true) : doF false (iSub ⟨#[48]⟩ n) = (ofI (-nS n), false) := by
  have e : iSub ⟨#[48]⟩ n = (ofI (-nS n), 0) := by
    unfold iSub
    rw [if_pos (by simp [h, vS_zero]), nS_zero', Int.zero_sub, chkI_ok (by rw [Int.natAbs_neg]; exact nS_lt h)]
  unfold doF; rw [e]; rfl
theorem do_gcd {a b : ByteArray} (ha : vS a = true) (hb : vS b = true) : doF false (iGcd a b) = (ofI (Int.gcd (nS a) (nS b)), false) := by
  have e : iGcd a b = (ofI (Int.gcd (nS a) (nS b)), 0) := by unfold iGcd; rw [if_pos (by simp [ha, hb])]
  unfold doF; rw [e]; rfl
theorem do_quo {a b : ByteArray} (ha : vS a = true) (hb : vS b = true) (h0 : nS b ≠ 0) : doF false (iQuo a b) = (ofI (nS a / nS b), false) := by
  unfold doF iQuo
  rw [iDivYes ha hb h0]; rfl
/-- What 'reduced' gives. -/
def redF (bad : Bool) (n d : ByteArray) : RS × Int := if bad then (noR, 40) else rMake n d
theorem red_pos {n d : ByteArray} (hn : vS n = true) (hd : vS d = true) (h : 0 < nS d) : redF false n d = ((ofI (nS n / (Int.gcd (nS n) (nS d) : Int)), ofI (nS d / (Int.gcd (nS n) (nS d) : Int))), 0) := by
  unfold redF rMake
  rw [if_neg (by simp), if_pos (by simp [hn, hd]; omega)]
  obtain ⟨e1, e2⟩ := divInt_pos_num (n := nS n) h
  unfold rT
  rw [e1, e2]
theorem red_neg {n d : ByteArray} (hn : vS n = true) (hd : vS d = true) (h : nS d < 0) : redF false n d = ((ofI (-nS n / (Int.gcd (-nS n) (-nS d) : Int)), ofI (-nS d / (Int.gcd (-nS n) (-nS d) : Int))), 0) := by
  unfold redF rMake
  rw [if_neg (by simp), if_pos (by simp [hn, hd]; omega)]
  obtain ⟨e1, e2⟩ := divInt_pos_num (n := -nS n) (d := -nS d) (by omega)
  unfold rT
  rw [← e1, ← e2, Rat.neg_divInt_neg]
theorem gcd_vS {a b : Int} (ha : a.natAbs < BIG) (hb : b.natAbs < BIG) : vS (ofI (Int.gcd a b : Int)) = true := vS_ofI (by rw [Int.natAbs_natCast]; exact gcd_lt ha hb)
theorem size_vS {s : ByteArray} (h : vS s = true) : s.size ≤ maxLen := by have := vS_size h; unfold maxLen; omega
theorem grown_setNew {w w' : World} {row : Option Nat} (h : w.grownBy w' row) {a : Addr} (ha : w.heap.size ≤ a.block) (u : Value) : w.grownBy (w'.setCell a u) row :=
  ⟨h.os, h.tape, h.output, by simpa [World.setCell] using h.size, fun k hk hr => (Below.heap_setCell _ _ _ _ (by omega)).trans (h.block k hk hr)⟩
/-- The post of 'reduced' and of what ends with it. -/
def RedPost (w : World) (b : Nat) (r : RS × Int) (e : Ending) (w' : World) : Prop := e = .returned (vRE r) ∧ w.grownBy w' (some b)

set_option maxRecDepth 100000 in
theorem reduced_bad (n d : ByteArray) (b : Nat) (w : World) (hw : Wk w b true) : Calls Tryz.prog 57 #[.pointer (some ⟨b, 0, none⟩), .string n, .string d] w (RedPost w b (noR, 40)) := by
  obtain ⟨c1, c2, c3⟩ := blk1 hw
  clear hw
  go_enter Tryz.func57, Tryz.ntmps57
  go_wp2
  refine bodyPost_ret (v := vRE (noR, 40)) (by simp [results, Tryz.results57, go_sem, noR]; rfl) rfl ⟨rfl, ?_⟩
  exact World.grownBy_alloc w _ _
set_option maxRecDepth 100000 in
theorem reduced_zero (n d : ByteArray) (hd : vS d = true) (h0 : nS d = 0) (b : Nat) (w : World) (hw : Wk w b false) : Calls Tryz.prog 57 #[.pointer (some ⟨b, 0, none⟩), .string n, .string d] w (RedPost w b (noR, 40)) := by
  obtain ⟨c1, c2, c3⟩ := blk1 hw
  have c4 : (d.toList == [48]) = true := by rw [eq48 hd]; simp [h0]
  clear hw hd h0
  go_enter Tryz.func57, Tryz.ntmps57
  go_wp2
  refine bodyPost_ret (v := vRE (noR, 40)) (by simp [results, Tryz.results57, go_sem, noR]; rfl) rfl ⟨rfl, ?_⟩
  exact World.grownBy_alloc w _ _
set_option maxRecDepth 100000 in
set_option maxHeartbeats 1000000 in
theorem reduced_pos (n d : ByteArray) (hn : vS n = true) (hd : vS d = true) (h0 : 0 < nS d) (b : Nat) (w : World) (hw : Wk w b false) (hg : Glob w) (hb : AboveG b) : Calls Tryz.prog 57 #[.pointer (some ⟨b, 0, none⟩), .string n, .string d] w (RedPost w b (redF false n d)) := by
  rw [red_pos hn hd h0]
  obtain ⟨c1, c2, c3⟩ := blk1 hw
  have c4 : (d.toList == [48]) = false := by rw [eq48 hd]; simp; omega
  have H3 := Lib.hid (fun w => intCompare_any d ⟨#[48]⟩ w (size_vS hd) (by decide))
  rw [iCmp_zero hd] at H3
  obtain ⟨cv, hcv⟩ : ∃ c, cmpI (nS d) 0 = c := ⟨_, rfl⟩
  rw [hcv] at H3
  have hc : ¬ cv < 0 := by { rw [← hcv]; unfold cmpI; split <;> first | omega | (split <;> omega) }
  have hnB := nS_lt hn
  have hdB := nS_lt hd
  have hgc := do_gcd hn hd
  have hsg : vS (ofI (Int.gcd (nS n) (nS d) : Int)) = true := gcd_vS hnB hdB
  have hg0 : nS (ofI (Int.gcd (nS n) (nS d) : Int)) ≠ 0 := by
    rw [nS_ofI]
    have : 0 < Int.gcd (nS n) (nS d) := Int.gcd_pos_of_ne_zero_right _ (by omega)
    omega
  have hq1 := do_quo hn hsg hg0
  have hq2 := do_quo hd hsg hg0
  simp only [nS_ofI] at hgc hq1 hq2
  have hn' := hn
  have hd' := hd
  generalize ofI (Int.gcd (nS n) (nS d) : Int) = g at *
  generalize ofI (nS n / (Int.gcd (nS n) (nS d) : Int)) = q1 at *
  generalize ofI (nS d / (Int.gcd (nS n) (nS d) : Int)) = q2 at *
  have V3 := Lib.hid hgc
  have V4 := Lib.hid hq1
  have V5 := Lib.hid hq2
  have Y1 := Lib.hid (size_vS hn')
  have Y2 := Lib.hid (size_vS hd')
  have Y3 := Lib.hid (size_vS hsg)
  have Hw := Lib.hid hw
  have Hg := Lib.hid hg
  have Hb := Lib.hid hb
  have Hne : Hid (w.heap.size ≠ b) := Lib.hid (by omega)
  clear hw hg hb hn hd hnB hdB hn' hd' hsg hg0 hgc hq1 hq2 hcv h0
  go_enter Tryz.func57, Tryz.ntmps57
  go_wp2_with fail
  refine (H3.out _).mono ?_
  rintro e w1 ⟨rfl, hb1⟩
  have K1 := Lib.hid (Blk.below (Blk.alloc Hw.out (.cells #[.string ⟨#[]⟩, .string ⟨#[]⟩] 23)) hb1 (by simp; omega))
  have R1 := Lib.hid (Blk.below (Blk.new w #[.string ⟨#[]⟩, .string ⟨#[]⟩] 23) hb1 (by simp))
  have G1 := Lib.hid ((World.grownBy_alloc w (.cells #[.string ⟨#[]⟩, .string ⟨#[]⟩] 23) (some b)).trans (grown_of_below hb1 _))
  clear hb1
  go_wp2_with fail
  refine (do_any _ _ opGcd n d b false _ K1.out (fun _ => Hg.out.grown G1.out Hb.out) Y1.out Y2.out).mono ?_
  rw [V3.out]
  rintro e w2 ⟨rfl, k2, g2⟩
  have K2 := Lib.hid k2
  have R2 := Lib.hid (Blk.other R1.out g2 Hne.out)
  have G2 := Lib.hid (G1.out.trans g2)
  clear k2 g2
  go_wp2_with fail
  refine (quotient_any n g b false _ K2.out (fun _ => Hg.out.grown G2.out Hb.out) Y1.out Y3.out).mono ?_
  rw [V4.out]
  rintro e w3 ⟨rfl, k3, g3⟩
  have K3 := Lib.hid k3
  have R3 := Lib.hid (Blk.other R2.out g3 Hne.out)
  have G3 := Lib.hid (G2.out.trans g3)
  clear k3 g3
  go_wp2_with fail
  refine (quotient_any d g b false _ K3.out (fun _ => Hg.out.grown G3.out Hb.out) Y2.out Y3.out).mono ?_
  rw [V5.out]
  rintro e w4 ⟨rfl, k4, g4⟩
  have K4 := Lib.hid k4
  have R4 := Lib.hid (Blk.other R3.out g4 Hne.out)
  have G4 := Lib.hid (G3.out.trans g4)
  clear k4 g4
  obtain ⟨r1, r2, r3, r4, r5⟩ := blk2 R4.out
  obtain ⟨s1, s2, s3⟩ := blk1 K4.out
  go_wp2
  refine bodyPost_ret (v := vRE ((q1, q2), 0)) (by simp [results, Tryz.results57, go_sem, r1, r2, r3, r4, r5]) rfl ⟨rfl, ?_⟩
  exact (grown_setNew (grown_setNew G4.out (Nat.le_refl _) _) (Nat.le_refl _) _).trans (World.grownBy_alloc _ _ _)
set_option maxRecDepth 100000 in
set_option maxHeartbeats 1000000 in
theorem reduced_neg (n d : ByteArray) (hn : vS n = true) (hd : vS d = true) (h0 : nS d < 0) (b : Nat) (w : World) (hw : Wk w b false) (hg : Glob w) (hb : AboveG b) : Calls Tryz.prog 57 #[.pointer (some ⟨b, 0, none⟩), .string n, .string d] w (RedPost w b (redF false n d)) := by
  rw [red_neg hn hd h0]
  obtain ⟨c1, c2, c3⟩ := blk1 hw
  have c4 : (d.toList == [48]) = false := by rw [eq48 hd]; simp; omega
  have H3 := Lib.hid (fun w => intCompare_any d ⟨#[48]⟩ w (size_vS hd) (by decide))
  rw [iCmp_zero hd] at H3
  obtain ⟨cv, hcv⟩ : ∃ c, cmpI (nS d) 0 = c := ⟨_, rfl⟩
  rw [hcv] at H3
  have hc : cv < 0 := by { rw [← hcv]; unfold cmpI; split <;> first | omega | (split <;> omega) }
  have hnB := nS_lt hn
  have hdB := nS_lt hd
  have V1 := Lib.hid (do_neg hn)
  have V2 := Lib.hid (do_neg hd)
  have Z1 := Lib.hid (size_vS hn)
  have Z2 := Lib.hid (size_vS hd)
  have hn' : vS (ofI (-nS n)) = true := vS_ofI (by rw [Int.natAbs_neg]; exact hnB)
  have hd' : vS (ofI (-nS d)) = true := vS_ofI (by rw [Int.natAbs_neg]; exact hdB)
  have hgc := do_gcd hn' hd'
  have hsg : vS (ofI (Int.gcd (-nS n) (-nS d) : Int)) = true := gcd_vS (by rw [Int.natAbs_neg]; exact hnB) (by rw [Int.natAbs_neg]; exact hdB)
  have hg0 : nS (ofI (Int.gcd (-nS n) (-nS d) : Int)) ≠ 0 := by
    rw [nS_ofI]
    have : 0 < Int.gcd (-nS n) (-nS d) := Int.gcd_pos_of_ne_zero_right _ (by omega)
    omega
  have hq1 := do_quo hn' hsg hg0
  have hq2 := do_quo hd' hsg hg0
  simp only [nS_ofI] at hgc hq1 hq2
  generalize ofI (-nS n) = n' at *
  generalize ofI (-nS d) = d' at *
  generalize ofI (Int.gcd (-nS n) (-nS d) : Int) = g at *
  generalize ofI ((-nS n) / (Int.gcd (-nS n) (-nS d) : Int)) = q1 at *
  generalize ofI ((-nS d) / (Int.gcd (-nS n) (-nS d) : Int)) = q2 at *
  have V3 := Lib.hid hgc
  have V4 := Lib.hid hq1
  have V5 := Lib.hid hq2
  have Y1 := Lib.hid (size_vS hn')
  have Y2 := Lib.hid (size_vS hd')
  have Y3 := Lib.hid (size_vS hsg)
  have Hw := Lib.hid hw
  have Hg := Lib.hid hg
  have Hb := Lib.hid hb
  have Hne : Hid (w.heap.size ≠ b) := Lib.hid (by omega)
  clear hw hg hb hn hd hnB hdB hn' hd' hsg hg0 hgc hq1 hq2 hcv h0
  go_enter Tryz.func57, Tryz.ntmps57
  go_wp2_with fail
  refine (H3.out _).mono ?_
  rintro e w1 ⟨rfl, hb1⟩
  have K1 := Lib.hid (Blk.below (Blk.alloc Hw.out (.cells #[.string ⟨#[]⟩, .string ⟨#[]⟩] 23)) hb1 (by simp; omega))
  have R1 := Lib.hid (Blk.below (Blk.new w #[.string ⟨#[]⟩, .string ⟨#[]⟩] 23) hb1 (by simp))
  have G1 := Lib.hid ((World.grownBy_alloc w (.cells #[.string ⟨#[]⟩, .string ⟨#[]⟩] 23) (some b)).trans (grown_of_below hb1 _))
  clear hb1
  go_wp2_with fail
  refine (do_any _ _ opSub ⟨#[48]⟩ n b false _ K1.out (fun _ => Hg.out.grown G1.out Hb.out) (by decide) Z1.out).mono ?_
  rw [V1.out]
  rintro e w2 ⟨rfl, k2, g2⟩
  have K2 := Lib.hid k2
  have R2 := Lib.hid (Blk.other R1.out g2 Hne.out)
  have G2 := Lib.hid (G1.out.trans g2)
  clear k2 g2
  go_wp2_with fail
  refine (do_any _ _ opSub ⟨#[48]⟩ d b false _ K2.out (fun _ => Hg.out.grown G2.out Hb.out) (by decide) Z2.out).mono ?_
  rw [V2.out]
  rintro e w3 ⟨rfl, k3, g3⟩
  have K3 := Lib.hid k3
  have R3 := Lib.hid (Blk.other R2.out g3 Hne.out)
  have G3 := Lib.hid (G2.out.trans g3)
  clear k3 g3
  go_wp2_with fail
  refine (do_any _ _ opGcd n' d' b false _ K3.out (fun _ => Hg.out.grown G3.out Hb.out) Y1.out Y2.out).mono ?_
  rw [V3.out]
  rintro e w4 ⟨rfl, k4, g4⟩
  have K4 := Lib.hid k4
  have R4 := Lib.hid (Blk.other R3.out g4 Hne.out)
  have G4 := Lib.hid (G3.out.trans g4)
  clear k4 g4
  go_wp2_with fail
  refine (quotient_any n' g b false _ K4.out (fun _ => Hg.out.grown G4.out Hb.out) Y1.out Y3.out).mono ?_
  rw [V4.out]
  rintro e w5 ⟨rfl, k5, g5⟩
  have K5 := Lib.hid k5
  have R5 := Lib.hid (Blk.other R4.out g5 Hne.out)
  have G5 := Lib.hid (G4.out.trans g5)
  clear k5 g5
  go_wp2_with fail
  refine (quotient_any d' g b false _ K5.out (fun _ => Hg.out.grown G5.out Hb.out) Y2.out Y3.out).mono ?_
  rw [V5.out]
  rintro e w6 ⟨rfl, k6, g6⟩
  have K6 := Lib.hid k6
  have R6 := Lib.hid (Blk.other R5.out g6 Hne.out)
  have G6 := Lib.hid (G5.out.trans g6)
  clear k6 g6
  obtain ⟨r1, r2, r3, r4, r5⟩ := blk2 R6.out
  obtain ⟨s1, s2, s3⟩ := blk1 K6.out
  go_wp2
  refine bodyPost_ret (v := vRE ((q1, q2), 0)) (by simp [results, Tryz.results57, go_sem, r1, r2, r3, r4, r5]) rfl ⟨rfl, ?_⟩
  exact (grown_setNew (grown_setNew G6.out (Nat.le_refl _) _) (Nat.le_refl _) _).trans (World.grownBy_alloc _ _ _)
theorem reduced_any (n d : ByteArray) (b : Nat) (bad : Bool) (w : World) (hw : Wk w b bad) (h : bad = false → vS n = true ∧ vS d = true ∧ Glob w) (hb : AboveG b) : Calls Tryz.prog 57 #[.pointer (some ⟨b, 0, none⟩), .string n, .string d] w (RedPost w b (redF bad n d)) := by
  cases bad with
  | true => exact reduced_bad n d b w hw
  | false =>
    obtain ⟨hn, hd, hg⟩ := h rfl
    rcases Int.lt_trichotomy (nS d) 0 with h0 | h0 | h0
    · exact reduced_neg n d hn hd h0 b w hw hg hb
    · have : redF false n d = (noR, 40) := by unfold redF rMake; simp [h0]
      rw [this]
      exact reduced_zero n d hd h0 b w hw
    · exact reduced_pos n d hn hd h0 b w hw hg hb
end Go.Proofs.YtgeoidnleagloaaGreatDoor
