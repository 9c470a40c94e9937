import Derived.Test.YtgeoidnleagloaaGreatDoorLA
set_option linter.unusedVariables false
set_option linter.unusedSimpArgs false
namespace Go.Proofs.YtgeoidnleagloaaGreatDoor
open Go.RowKit Yk

set_option maxRecDepth 100000 in
set_option maxRecDepth 100000 in
set_option maxHeartbeats 4000000 in
theorem sane_any (w : World) (hg : Glob w) : Calls Tryz.prog 11 #[] w fun e w' => e = .returned (.bool true) ∧ Below w.heap.size w w' := by
  have Ct1 : Hid (∀ W, Glob W → Calls Tryz.prog 41 #[.int .i64 6, .int .i64 (-4)] W fun e w' => e = .returned (.tuple #[.agg #[.string ⟨#[45, 51]⟩, .string ⟨#[50]⟩], .int .i64 0]) ∧ Below W.heap.size W w') := Lib.hid fun W hg => by
    have := ratOf_any 6 (-4) W hg (by decide) (by decide) (by decide) (by decide)
    rw [ex_of1] at this
    exact this
  have Ct2 : Hid (∀ W, Glob W → Calls Tryz.prog 41 #[.int .i64 0, .int .i64 (-5)] W fun e w' => e = .returned (.tuple #[.agg #[.string ⟨#[48]⟩, .string ⟨#[49]⟩], .int .i64 0]) ∧ Below W.heap.size W w') := Lib.hid fun W hg => by
    have := ratOf_any 0 (-5) W hg (by decide) (by decide) (by decide) (by decide)
    rw [ex_of2] at this
    exact this
  have Ct3 : Hid (∀ W, Glob W → Calls Tryz.prog 41 #[.int .i64 1, .int .i64 0] W fun e w' => e = .returned (.tuple #[.agg #[.string ⟨#[]⟩, .string ⟨#[]⟩], .int .i64 40]) ∧ Below W.heap.size W w') := Lib.hid fun W hg => by
    have := ratOf_any 1 0 W hg (by decide) (by decide) (by decide) (by decide)
    rw [ex_of3] at this
    exact this
  have Ct4 : Hid (∀ W, Glob W → Calls Tryz.prog 27 #[.agg #[.string ⟨#[49]⟩, .string ⟨#[50]⟩], .agg #[.string ⟨#[49]⟩, .string ⟨#[51]⟩]] W fun e w' => e = .returned (.tuple #[.agg #[.string ⟨#[53]⟩, .string ⟨#[54]⟩], .int .i64 0]) ∧ Below W.heap.size W w') := Lib.hid fun W hg => by
    have := ratAdd_any (⟨#[49]⟩, ⟨#[50]⟩) (⟨#[49]⟩, ⟨#[51]⟩) W hg ⟨by decide, by decide⟩ ⟨by decide, by decide⟩
    rw [ex_add] at this
    exact this
  have Ct5 : Hid (∀ W, Glob W → Calls Tryz.prog 26 #[.agg #[.string ⟨#[49]⟩, .string ⟨#[50]⟩], .agg #[.string ⟨#[45, 49]⟩, .string ⟨#[52]⟩]] W fun e w' => e = .returned (.tuple #[.agg #[.string ⟨#[45, 50]⟩, .string ⟨#[49]⟩], .int .i64 0]) ∧ Below W.heap.size W w') := Lib.hid fun W hg => by
    have := ratDiv_any (⟨#[49]⟩, ⟨#[50]⟩) (⟨#[45, 49]⟩, ⟨#[52]⟩) W hg ⟨by decide, by decide⟩ ⟨by decide, by decide⟩
    rw [ex_div] at this
    exact this
  have Ct6 : Hid (∀ W, Glob W → Calls Tryz.prog 26 #[.agg #[.string ⟨#[49]⟩, .string ⟨#[49]⟩], .agg #[.string ⟨#[48]⟩, .string ⟨#[49]⟩]] W fun e w' => e = .returned (.tuple #[.agg #[.string ⟨#[]⟩, .string ⟨#[]⟩], .int .i64 40]) ∧ Below W.heap.size W w') := Lib.hid fun W hg => by
    have := ratDiv_any (⟨#[49]⟩, ⟨#[49]⟩) (⟨#[48]⟩, ⟨#[49]⟩) W hg ⟨by decide, by decide⟩ ⟨by decide, by decide⟩
    rw [ex_div0] at this
    exact this
  have Ct7 : Hid (∀ W, Glob W → Calls Tryz.prog 35 #[.agg #[.string ⟨#[45, 49]⟩, .string ⟨#[51]⟩], .int .i64 2] W fun e w' => e = .returned (.tuple #[.agg #[.string ⟨#[45, 49, 55]⟩, .string ⟨#[53, 48]⟩], .int .i64 0]) ∧ Below W.heap.size W w') := Lib.hid fun W hg => by
    have := ratDown_any (⟨#[45, 49]⟩, ⟨#[51]⟩) 2 W hg ⟨by decide, by decide⟩
    rw [ex_down] at this
    exact this
  have Ct8 : Hid (∀ W, Glob W → Calls Tryz.prog 37 #[.agg #[.string ⟨#[49]⟩, .string ⟨#[51]⟩], .int .i64 2] W fun e w' => e = .returned (.tuple #[.agg #[.string ⟨#[49, 55]⟩, .string ⟨#[53, 48]⟩], .int .i64 0]) ∧ Below W.heap.size W w') := Lib.hid fun W hg => by
    have := ratUp_any (⟨#[49]⟩, ⟨#[51]⟩) 2 W hg ⟨by decide, by decide⟩
    rw [ex_up] at this
    exact this
  have Ct9 : Hid (∀ W, Glob W → Calls Tryz.prog 15 #[.string ⟨#[45, 51, 47, 50]⟩] W fun e w' => e = .returned (.tuple #[.agg #[.string ⟨#[45, 51]⟩, .string ⟨#[50]⟩], .int .i64 0]) ∧ Below W.heap.size W w') := Lib.hid fun W hg => by
    have := ratParse_any ⟨#[45, 51, 47, 50]⟩ W hg (by decide)
    rw [ex_parse] at this
    exact this
  have Ct10 : Hid (∀ W, Glob W → Calls Tryz.prog 15 #[.string ⟨#[54, 47, 52]⟩] W fun e w' => e = .returned (.tuple #[.agg #[.string ⟨#[]⟩, .string ⟨#[]⟩], .int .i64 40]) ∧ Below W.heap.size W w') := Lib.hid fun W hg => by
    have := ratParse_any ⟨#[54, 47, 52]⟩ W hg (by decide)
    rw [ex_parse2] at this
    exact this
  have CP : Hid (∀ W, Glob W → Calls Tryz.prog 14 #[.agg #[.string ⟨#[45, 51]⟩, .string ⟨#[50]⟩]] W fun e w' => e = .returned (.string ⟨#[45, 51, 47, 50]⟩) ∧ Below W.heap.size W w') := Lib.hid fun W hg => by
    have := ratPrint_any (⟨#[45, 51]⟩, ⟨#[50]⟩) W hg ⟨by decide, by decide⟩
    rw [ex_print] at this
    exact this
  have CC : Hid (∀ W, Glob W → Calls Tryz.prog 23 #[.agg #[.string ⟨#[49]⟩, .string ⟨#[51]⟩], .agg #[.string ⟨#[51, 51, 51, 51, 51]⟩, .string ⟨#[49, 48, 48, 48, 48, 48]⟩]] W fun e w' => e = .returned (.int .i64 1) ∧ Below W.heap.size W w') := Lib.hid fun W hg => by
    have := ratCompare_any (⟨#[49]⟩, ⟨#[51]⟩) (⟨#[51, 51, 51, 51, 51]⟩, ⟨#[49, 48, 48, 48, 48, 48]⟩) W hg ⟨by decide, by decide⟩ ⟨by decide, by decide⟩
    rw [ex_cmp] at this
    exact this
  have CV : Hid (∀ W, Glob W → Calls Tryz.prog 17 #[.agg #[.string ⟨#[45, 51]⟩, .string ⟨#[50]⟩]] W fun e w' => e = .returned (.bool true) ∧ Below W.heap.size W w') := Lib.hid fun W hg => by
    have := ratValid_any (⟨#[45, 51]⟩, ⟨#[50]⟩) W hg (by decide) (by decide)
    rw [ex_valid] at this
    exact this
  have CI : Hid (∀ W, Glob W → Calls Tryz.prog 17 #[.agg #[.string ⟨#[]⟩, .string ⟨#[]⟩]] W fun e w' => e = .returned (.bool false) ∧ Below W.heap.size W w') := Lib.hid fun W hg => by
    have := ratValid_any (⟨#[]⟩, ⟨#[]⟩) W hg (by decide) (by decide)
    rw [ex_inv] at this
    exact this
  have Hg := Lib.hid hg
  have L0 : Hid (Below w.heap.size w w) := Lib.hid (Below.refl _ _)
  clear hg
  have hmx : Tryz.prog.follows .mixedOrders = true := by kernel_rfl
  go_enter Tryz.func11, Tryz.ntmps11
  go_wp2_with fail
  refine (Ct1.out _ (by first | exact Hg.out.below L0.out | exact Hg.out.below L0.out.drew | exact Hg.out.below (L0.out.alloc L0.out.size _) | exact Hg.out.below (L0.out.alloc L0.out.size _).drew)).mono ?_
  rintro e w1 ⟨rfl, hb1⟩
  have s1 := Lib.hid (step (p := w) (by first | exact Below.refl _ _ | exact (Below.refl _ _).drew | exact (Below.refl _ _).alloc (Nat.le_refl _) _ | exact ((Below.refl _ _).alloc (Nat.le_refl _) _).drew | exact (Below.refl _ _).drew.alloc (Nat.le_refl _) _) hb1)
  have L1 := Lib.hid (L0.out.trans (s1.out.mono L0.out.size))
  clear hb1
  go_wp2_with fail
  refine (Ct2.out _ (by first | exact Hg.out.below L1.out | exact Hg.out.below L1.out.drew | exact Hg.out.below (L1.out.alloc L1.out.size _) | exact Hg.out.below (L1.out.alloc L1.out.size _).drew)).mono ?_
  rintro e w2 ⟨rfl, hb2⟩
  have s2 := Lib.hid (step (p := w1) (by first | exact Below.refl _ _ | exact (Below.refl _ _).drew | exact (Below.refl _ _).alloc (Nat.le_refl _) _ | exact ((Below.refl _ _).alloc (Nat.le_refl _) _).drew | exact (Below.refl _ _).drew.alloc (Nat.le_refl _) _) hb2)
  have L2 := Lib.hid (L1.out.trans (s2.out.mono L1.out.size))
  have A2 := Lib.hid (Blk.below (Blk.new w1 #[.string ⟨#[45, 51]⟩, .string ⟨#[50]⟩] 23) hb2 (by simp))
  clear hb2
  go_wp2_with fail
  refine (Ct3.out _ (by first | exact Hg.out.below L2.out | exact Hg.out.below L2.out.drew | exact Hg.out.below (L2.out.alloc L2.out.size _) | exact Hg.out.below (L2.out.alloc L2.out.size _).drew)).mono ?_
  rintro e w3 ⟨rfl, hb3⟩
  have s3 := Lib.hid (step (p := w2) (by first | exact Below.refl _ _ | exact (Below.refl _ _).drew | exact (Below.refl _ _).alloc (Nat.le_refl _) _ | exact ((Below.refl _ _).alloc (Nat.le_refl _) _).drew | exact (Below.refl _ _).drew.alloc (Nat.le_refl _) _) hb3)
  have L3 := Lib.hid (L2.out.trans (s3.out.mono L2.out.size))
  have A3 := Lib.hid (A2.out.below s3.out A2.out.lt)
  have B3 := Lib.hid (Blk.below (Blk.new w2 #[.string ⟨#[48]⟩, .string ⟨#[49]⟩] 23) hb3 (by simp))
  clear hb3
  go_wp2_with fail
  refine (is_any _ _ _).mono ?_
  rintro e w4 ⟨rfl, hb4⟩
  have s4 := Lib.hid (step (p := w3) (by first | exact Below.refl _ _ | exact (Below.refl _ _).drew | exact (Below.refl _ _).alloc (Nat.le_refl _) _ | exact ((Below.refl _ _).alloc (Nat.le_refl _) _).drew | exact (Below.refl _ _).drew.alloc (Nat.le_refl _) _) hb4)
  have L4 := Lib.hid (L3.out.trans (s4.out.mono L3.out.size))
  have A4 := Lib.hid (A3.out.below s4.out A3.out.lt)
  have B4 := Lib.hid (B3.out.below s4.out B3.out.lt)
  have Z34 := Lib.hid (Blk.below (Blk.new w3 #[.string ⟨#[]⟩, .string ⟨#[]⟩] 23) hb4 (by simp))
  clear hb4
  go_wp2_with fail
  refine (is_any _ _ _).mono ?_
  rintro e w5 ⟨rfl, hb5⟩
  have s5 := Lib.hid (step (p := w4) (by first | exact Below.refl _ _ | exact (Below.refl _ _).drew | exact (Below.refl _ _).alloc (Nat.le_refl _) _ | exact ((Below.refl _ _).alloc (Nat.le_refl _) _).drew | exact (Below.refl _ _).drew.alloc (Nat.le_refl _) _) hb5)
  have L5 := Lib.hid (L4.out.trans (s5.out.mono L4.out.size))
  have A5 := Lib.hid (A4.out.below s5.out A4.out.lt)
  have B5 := Lib.hid (B4.out.below s5.out B4.out.lt)
  have Z35 := Lib.hid (Z34.out.below s5.out Z34.out.lt)
  clear hb5
  go_wp2_with fail
  refine (Ct4.out _ (by first | exact Hg.out.below L5.out | exact Hg.out.below L5.out.drew | exact Hg.out.below (L5.out.alloc L5.out.size _) | exact Hg.out.below (L5.out.alloc L5.out.size _).drew)).mono ?_
  rintro e w6 ⟨rfl, hb6⟩
  have s6 := Lib.hid (step (p := w5) (by first | exact Below.refl _ _ | exact (Below.refl _ _).drew | exact (Below.refl _ _).alloc (Nat.le_refl _) _ | exact ((Below.refl _ _).alloc (Nat.le_refl _) _).drew | exact (Below.refl _ _).drew.alloc (Nat.le_refl _) _) hb6)
  have L6 := Lib.hid (L5.out.trans (s6.out.mono L5.out.size))
  have A6 := Lib.hid (A5.out.below s6.out A5.out.lt)
  have B6 := Lib.hid (B5.out.below s6.out B5.out.lt)
  have Z36 := Lib.hid (Z35.out.below s6.out Z35.out.lt)
  clear hb6
  go_wp2_with fail
  refine (is_any _ _ _).mono ?_
  rintro e w7 ⟨rfl, hb7⟩
  have s7 := Lib.hid (step (p := w6) (by first | exact Below.refl _ _ | exact (Below.refl _ _).drew | exact (Below.refl _ _).alloc (Nat.le_refl _) _ | exact ((Below.refl _ _).alloc (Nat.le_refl _) _).drew | exact (Below.refl _ _).drew.alloc (Nat.le_refl _) _) hb7)
  have L7 := Lib.hid (L6.out.trans (s7.out.mono L6.out.size))
  have A7 := Lib.hid (A6.out.below s7.out A6.out.lt)
  have B7 := Lib.hid (B6.out.below s7.out B6.out.lt)
  have Z37 := Lib.hid (Z36.out.below s7.out Z36.out.lt)
  have C7 := Lib.hid (Blk.below (Blk.new w6 #[.string ⟨#[53]⟩, .string ⟨#[54]⟩] 23) hb7 (by simp))
  clear hb7
  go_wp2_with fail
  refine (is_any _ _ _).mono ?_
  rintro e w8 ⟨rfl, hb8⟩
  have s8 := Lib.hid (step (p := w7) (by first | exact Below.refl _ _ | exact (Below.refl _ _).drew | exact (Below.refl _ _).alloc (Nat.le_refl _) _ | exact ((Below.refl _ _).alloc (Nat.le_refl _) _).drew | exact (Below.refl _ _).drew.alloc (Nat.le_refl _) _) hb8)
  have L8 := Lib.hid (L7.out.trans (s8.out.mono L7.out.size))
  have A8 := Lib.hid (A7.out.below s8.out A7.out.lt)
  have B8 := Lib.hid (B7.out.below s8.out B7.out.lt)
  have Z38 := Lib.hid (Z37.out.below s8.out Z37.out.lt)
  have C8 := Lib.hid (C7.out.below s8.out C7.out.lt)
  clear hb8
  go_wp2_with fail
  refine (Ct5.out _ (by first | exact Hg.out.below L8.out | exact Hg.out.below L8.out.drew | exact Hg.out.below (L8.out.alloc L8.out.size _) | exact Hg.out.below (L8.out.alloc L8.out.size _).drew)).mono ?_
  rintro e w9 ⟨rfl, hb9⟩
  have s9 := Lib.hid (step (p := w8) (by first | exact Below.refl _ _ | exact (Below.refl _ _).drew | exact (Below.refl _ _).alloc (Nat.le_refl _) _ | exact ((Below.refl _ _).alloc (Nat.le_refl _) _).drew | exact (Below.refl _ _).drew.alloc (Nat.le_refl _) _) hb9)
  have L9 := Lib.hid (L8.out.trans (s9.out.mono L8.out.size))
  have A9 := Lib.hid (A8.out.below s9.out A8.out.lt)
  have B9 := Lib.hid (B8.out.below s9.out B8.out.lt)
  have Z39 := Lib.hid (Z38.out.below s9.out Z38.out.lt)
  have C9 := Lib.hid (C8.out.below s9.out C8.out.lt)
  clear hb9
  go_wp2
  have s5x := Lib.hid (show Below w9.heap.size w9 (w9.alloc (.cells #[.string ⟨#[45, 50]⟩, .string ⟨#[49]⟩] 23)) from (Below.refl _ _).alloc (Nat.le_refl _) _)
  have Dx := Lib.hid (Blk.new w9 #[.string ⟨#[45, 50]⟩, .string ⟨#[49]⟩] 23)
  have Ax := Lib.hid (A9.out.below s5x.out A9.out.lt)
  have Bx := Lib.hid (B9.out.below s5x.out B9.out.lt)
  have Z3x := Lib.hid (Z39.out.below s5x.out Z39.out.lt)
  have Cx := Lib.hid (C9.out.below s5x.out C9.out.lt)
  have Lx := Lib.hid (L9.out.trans (s5x.out.mono L9.out.size))
  generalize w9.alloc (.cells #[.string ⟨#[45, 50]⟩, .string ⟨#[49]⟩] 23) = wx at *
  obtain ⟨c1, c2, _, _, c5⟩ := blk2 Bx.out
  have hltB := Bx.out.lt
  go_region_held3 (fun w' => (w'.cell? ⟨w2.heap.size, 0, none⟩ = some (.string ⟨#[48]⟩)) ∧ (w'.cell? ⟨w2.heap.size, 1, none⟩ = some (.string ⟨#[49]⟩))) (go_keep)
    ((first
      | (go_at_call 24; refine (is_any _ _ _).mono ?_; rintro e w10 ⟨rfl, hb10⟩
         have s10 := Lib.hid (step (p := wx) (by first | exact Below.refl _ _ | exact (Below.refl _ _).drew | exact (Below.refl _ _).alloc (Nat.le_refl _) _ | exact ((Below.refl _ _).alloc (Nat.le_refl _) _).drew | exact (Below.refl _ _).drew.alloc (Nat.le_refl _) _) hb10)
         have L10 := Lib.hid (Lx.out.trans (s10.out.mono Lx.out.size))
         have hs10 := s10.out.size
         try have N10 := Lib.hid (Blk.below (w := (wx.alloc (.cells #[.string ⟨#[]⟩, .string ⟨#[]⟩] 23)).drew) (Blk.new wx _ _) hb10 (by simp))
         have A10 := Lib.hid (Ax.out.below s10.out Ax.out.lt)
         have B10 := Lib.hid (Bx.out.below s10.out Bx.out.lt)
         have Z310 := Lib.hid (Z3x.out.below s10.out Z3x.out.lt)
         have C10 := Lib.hid (Cx.out.below s10.out Cx.out.lt)
         have D10 := Lib.hid (Dx.out.below s10.out Dx.out.lt)
         obtain ⟨g1, g2, _, _, g5⟩ := blk2 B10.out
         clear hb10)
      | (go_at_call 26; refine (Ct6.out _ (by first | exact Hg.out.below L10.out | exact Hg.out.below L10.out.drew | exact Hg.out.below (L10.out.alloc L10.out.size _) | exact Hg.out.below (L10.out.alloc L10.out.size _).drew)).mono ?_; rintro e w11 ⟨rfl, hb11⟩
         have s11 := Lib.hid (step (p := w10) (by first | exact Below.refl _ _ | exact (Below.refl _ _).drew | exact (Below.refl _ _).alloc (Nat.le_refl _) _ | exact ((Below.refl _ _).alloc (Nat.le_refl _) _).drew | exact (Below.refl _ _).drew.alloc (Nat.le_refl _) _) hb11)
         have L11 := Lib.hid (L10.out.trans (s11.out.mono L10.out.size))
         have hs11 := s11.out.size
         have A11 := Lib.hid (A10.out.below s11.out A10.out.lt)
         have B11 := Lib.hid (B10.out.below s11.out B10.out.lt)
         have Z311 := Lib.hid (Z310.out.below s11.out Z310.out.lt)
         have C11 := Lib.hid (C10.out.below s11.out C10.out.lt)
         have D11 := Lib.hid (D10.out.below s11.out D10.out.lt)
         obtain ⟨h1, h2, _, _, h5⟩ := blk2 B11.out
         first
           | (have N11 := Lib.hid (N10.out.below s11.out N10.out.lt); obtain ⟨n1, n2, n3, n4, n5⟩ := blk2 N11.out
              have m1a : ¬ (wx.heap.size = w2.heap.size) := by omega
              have m1b : ¬ (w2.heap.size = wx.heap.size) := by omega)
           | (have N11 := Lib.hid (Blk.below (w := w10.alloc (.cells #[.string ⟨#[]⟩, .string ⟨#[]⟩] 23)) (Blk.new w10 _ _) hb11 (by simp)); obtain ⟨n1, n2, n3, n4, n5⟩ := blk2 N11.out
              have m1a : ¬ (w10.heap.size = w2.heap.size) := by omega
              have m1b : ¬ (w2.heap.size = w10.heap.size) := by omega)
           | skip
         clear hb11)))
  all_goals
    first
      | (have hchk : Hid (Blk w11 wx.heap.size #[.string ⟨#[]⟩, .string ⟨#[]⟩] 23) := N11; clear hchk; have hLs := L11.out.size; have Ly := Lib.hid ((L11.out.setCell (p := ⟨wx.heap.size, 0, none⟩) (by have := Lx.out.size; have := hs10; simp; omega) (.string ⟨#[]⟩)).setCell (p := ⟨wx.heap.size, 1, none⟩) (by have := Lx.out.size; have := hs10; simp; omega) (.string ⟨#[]⟩)); have Ay := Lib.hid (Blk.setOther (Blk.setOther A11.out (a := ⟨wx.heap.size, 0, none⟩) (by have := Ax.out.lt; simp; omega) (.string ⟨#[]⟩)) (a := ⟨wx.heap.size, 1, none⟩) (by have := Ax.out.lt; simp; omega) (.string ⟨#[]⟩)); have By := Lib.hid (Blk.setOther (Blk.setOther B11.out (a := ⟨wx.heap.size, 0, none⟩) (by have := Bx.out.lt; simp; omega) (.string ⟨#[]⟩)) (a := ⟨wx.heap.size, 1, none⟩) (by have := Bx.out.lt; simp; omega) (.string ⟨#[]⟩)); have Z3y := Lib.hid (Blk.setOther (Blk.setOther Z311.out (a := ⟨wx.heap.size, 0, none⟩) (by have := Z3x.out.lt; simp; omega) (.string ⟨#[]⟩)) (a := ⟨wx.heap.size, 1, none⟩) (by have := Z3x.out.lt; simp; omega) (.string ⟨#[]⟩)); have Cy := Lib.hid (Blk.setOther (Blk.setOther C11.out (a := ⟨wx.heap.size, 0, none⟩) (by have := Cx.out.lt; simp; omega) (.string ⟨#[]⟩)) (a := ⟨wx.heap.size, 1, none⟩) (by have := Cx.out.lt; simp; omega) (.string ⟨#[]⟩)); have Dy := Lib.hid (Blk.setOther (Blk.setOther D11.out (a := ⟨wx.heap.size, 0, none⟩) (by have := Dx.out.lt; simp; omega) (.string ⟨#[]⟩)) (a := ⟨wx.heap.size, 1, none⟩) (by have := Dx.out.lt; simp; omega) (.string ⟨#[]⟩)); generalize (w11.setCell ⟨wx.heap.size, 0, none⟩ (.string ⟨#[]⟩)).setCell ⟨wx.heap.size, 1, none⟩ (.string ⟨#[]⟩) = wy at *)
      | (have hchk : Hid (Blk w11 w10.heap.size #[.string ⟨#[]⟩, .string ⟨#[]⟩] 23) := N11; clear hchk; have hLs := L11.out.size; have Ly := Lib.hid ((L11.out.setCell (p := ⟨w10.heap.size, 0, none⟩) (by have := Lx.out.size; have := hs10; simp; omega) (.string ⟨#[]⟩)).setCell (p := ⟨w10.heap.size, 1, none⟩) (by have := Lx.out.size; have := hs10; simp; omega) (.string ⟨#[]⟩)); have Ay := Lib.hid (Blk.setOther (Blk.setOther A11.out (a := ⟨w10.heap.size, 0, none⟩) (by have := Ax.out.lt; simp; omega) (.string ⟨#[]⟩)) (a := ⟨w10.heap.size, 1, none⟩) (by have := Ax.out.lt; simp; omega) (.string ⟨#[]⟩)); have By := Lib.hid (Blk.setOther (Blk.setOther B11.out (a := ⟨w10.heap.size, 0, none⟩) (by have := Bx.out.lt; simp; omega) (.string ⟨#[]⟩)) (a := ⟨w10.heap.size, 1, none⟩) (by have := Bx.out.lt; simp; omega) (.string ⟨#[]⟩)); have Z3y := Lib.hid (Blk.setOther (Blk.setOther Z311.out (a := ⟨w10.heap.size, 0, none⟩) (by have := Z3x.out.lt; simp; omega) (.string ⟨#[]⟩)) (a := ⟨w10.heap.size, 1, none⟩) (by have := Z3x.out.lt; simp; omega) (.string ⟨#[]⟩)); have Cy := Lib.hid (Blk.setOther (Blk.setOther C11.out (a := ⟨w10.heap.size, 0, none⟩) (by have := Cx.out.lt; simp; omega) (.string ⟨#[]⟩)) (a := ⟨w10.heap.size, 1, none⟩) (by have := Cx.out.lt; simp; omega) (.string ⟨#[]⟩)); have Dy := Lib.hid (Blk.setOther (Blk.setOther D11.out (a := ⟨w10.heap.size, 0, none⟩) (by have := Dx.out.lt; simp; omega) (.string ⟨#[]⟩)) (a := ⟨w10.heap.size, 1, none⟩) (by have := Dx.out.lt; simp; omega) (.string ⟨#[]⟩)); generalize (w11.setCell ⟨w10.heap.size, 0, none⟩ (.string ⟨#[]⟩)).setCell ⟨w10.heap.size, 1, none⟩ (.string ⟨#[]⟩) = wy at *)
      | (have Ly := Lib.hid (L11.out.alloc L11.out.size (.cells #[.string ⟨#[]⟩, .string ⟨#[]⟩] 23)); have Ay := Lib.hid (Blk.alloc A11.out (.cells #[.string ⟨#[]⟩, .string ⟨#[]⟩] 23)); have By := Lib.hid (Blk.alloc B11.out (.cells #[.string ⟨#[]⟩, .string ⟨#[]⟩] 23)); have Z3y := Lib.hid (Blk.alloc Z311.out (.cells #[.string ⟨#[]⟩, .string ⟨#[]⟩] 23)); have Cy := Lib.hid (Blk.alloc C11.out (.cells #[.string ⟨#[]⟩, .string ⟨#[]⟩] 23)); have Dy := Lib.hid (Blk.alloc D11.out (.cells #[.string ⟨#[]⟩, .string ⟨#[]⟩] 23)); generalize w11.alloc (.cells #[.string ⟨#[]⟩, .string ⟨#[]⟩] 23) = wy at *)
  all_goals
    go_wp2_with fail
    refine (is_any _ _ _).mono ?_
    rintro e w12 ⟨rfl, hb12⟩
    have s12 := Lib.hid (step (p := wy) (by first | exact Below.refl _ _ | exact (Below.refl _ _).drew | exact (Below.refl _ _).alloc (Nat.le_refl _) _ | exact ((Below.refl _ _).alloc (Nat.le_refl _) _).drew | exact (Below.refl _ _).drew.alloc (Nat.le_refl _) _) hb12)
    have L12 := Lib.hid (Ly.out.trans (s12.out.mono Ly.out.size))
    have A12 := Lib.hid (Ay.out.below s12.out Ay.out.lt)
    have B12 := Lib.hid (By.out.below s12.out By.out.lt)
    have Z312 := Lib.hid (Z3y.out.below s12.out Z3y.out.lt)
    have C12 := Lib.hid (Cy.out.below s12.out Cy.out.lt)
    have D12 := Lib.hid (Dy.out.below s12.out Dy.out.lt)
    clear hb12
    go_wp2_with fail
    refine (Ct7.out _ (by first | exact Hg.out.below L12.out | exact Hg.out.below L12.out.drew | exact Hg.out.below (L12.out.alloc L12.out.size _) | exact Hg.out.below (L12.out.alloc L12.out.size _).drew)).mono ?_
    rintro e w13 ⟨rfl, hb13⟩
    have s13 := Lib.hid (step (p := w12) (by first | exact Below.refl _ _ | exact (Below.refl _ _).drew | exact (Below.refl _ _).alloc (Nat.le_refl _) _ | exact ((Below.refl _ _).alloc (Nat.le_refl _) _).drew | exact (Below.refl _ _).drew.alloc (Nat.le_refl _) _) hb13)
    have L13 := Lib.hid (L12.out.trans (s13.out.mono L12.out.size))
    have A13 := Lib.hid (A12.out.below s13.out A12.out.lt)
    have B13 := Lib.hid (B12.out.below s13.out B12.out.lt)
    have Z313 := Lib.hid (Z312.out.below s13.out Z312.out.lt)
    have C13 := Lib.hid (C12.out.below s13.out C12.out.lt)
    have D13 := Lib.hid (D12.out.below s13.out D12.out.lt)
    clear hb13
    go_wp2_with fail
    refine (is_any _ _ _).mono ?_
    rintro e w14 ⟨rfl, hb14⟩
    have s14 := Lib.hid (step (p := w13) (by first | exact Below.refl _ _ | exact (Below.refl _ _).drew | exact (Below.refl _ _).alloc (Nat.le_refl _) _ | exact ((Below.refl _ _).alloc (Nat.le_refl _) _).drew | exact (Below.refl _ _).drew.alloc (Nat.le_refl _) _) hb14)
    have L14 := Lib.hid (L13.out.trans (s14.out.mono L13.out.size))
    have A14 := Lib.hid (A13.out.below s14.out A13.out.lt)
    have B14 := Lib.hid (B13.out.below s14.out B13.out.lt)
    have Z314 := Lib.hid (Z313.out.below s14.out Z313.out.lt)
    have C14 := Lib.hid (C13.out.below s14.out C13.out.lt)
    have D14 := Lib.hid (D13.out.below s14.out D13.out.lt)
    have K14 := Lib.hid (Blk.below (Blk.new w13 #[.string ⟨#[45, 49, 55]⟩, .string ⟨#[53, 48]⟩] 23) hb14 (by simp))
    clear hb14
    go_wp2_with fail
    refine (Ct8.out _ (by first | exact Hg.out.below L14.out | exact Hg.out.below L14.out.drew | exact Hg.out.below (L14.out.alloc L14.out.size _) | exact Hg.out.below (L14.out.alloc L14.out.size _).drew)).mono ?_
    rintro e w15 ⟨rfl, hb15⟩
    have s15 := Lib.hid (step (p := w14) (by first | exact Below.refl _ _ | exact (Below.refl _ _).drew | exact (Below.refl _ _).alloc (Nat.le_refl _) _ | exact ((Below.refl _ _).alloc (Nat.le_refl _) _).drew | exact (Below.refl _ _).drew.alloc (Nat.le_refl _) _) hb15)
    have L15 := Lib.hid (L14.out.trans (s15.out.mono L14.out.size))
    have A15 := Lib.hid (A14.out.below s15.out A14.out.lt)
    have B15 := Lib.hid (B14.out.below s15.out B14.out.lt)
    have Z315 := Lib.hid (Z314.out.below s15.out Z314.out.lt)
    have C15 := Lib.hid (C14.out.below s15.out C14.out.lt)
    have D15 := Lib.hid (D14.out.below s15.out D14.out.lt)
    have K15 := Lib.hid (K14.out.below s15.out K14.out.lt)
    clear hb15
    go_wp2_with fail
    refine (Ct9.out _ (by first | exact Hg.out.below L15.out | exact Hg.out.below L15.out.drew | exact Hg.out.below (L15.out.alloc L15.out.size _) | exact Hg.out.below (L15.out.alloc L15.out.size _).drew)).mono ?_
    rintro e w16 ⟨rfl, hb16⟩
    have s16 := Lib.hid (step (p := w15) (by first | exact Below.refl _ _ | exact (Below.refl _ _).drew | exact (Below.refl _ _).alloc (Nat.le_refl _) _ | exact ((Below.refl _ _).alloc (Nat.le_refl _) _).drew | exact (Below.refl _ _).drew.alloc (Nat.le_refl _) _) hb16)
    have L16 := Lib.hid (L15.out.trans (s16.out.mono L15.out.size))
    have A16 := Lib.hid (A15.out.below s16.out A15.out.lt)
    have B16 := Lib.hid (B15.out.below s16.out B15.out.lt)
    have Z316 := Lib.hid (Z315.out.below s16.out Z315.out.lt)
    have C16 := Lib.hid (C15.out.below s16.out C15.out.lt)
    have D16 := Lib.hid (D15.out.below s16.out D15.out.lt)
    have K16 := Lib.hid (K15.out.below s16.out K15.out.lt)
    have M16 := Lib.hid (Blk.below (Blk.new w15 #[.string ⟨#[49, 55]⟩, .string ⟨#[53, 48]⟩] 23) hb16 (by simp))
    clear hb16
    go_wp2_with fail
    refine (Ct10.out _ (by first | exact Hg.out.below L16.out | exact Hg.out.below L16.out.drew | exact Hg.out.below (L16.out.alloc L16.out.size _) | exact Hg.out.below (L16.out.alloc L16.out.size _).drew)).mono ?_
    rintro e w17 ⟨rfl, hb17⟩
    have s17 := Lib.hid (step (p := w16) (by first | exact Below.refl _ _ | exact (Below.refl _ _).drew | exact (Below.refl _ _).alloc (Nat.le_refl _) _ | exact ((Below.refl _ _).alloc (Nat.le_refl _) _).drew | exact (Below.refl _ _).drew.alloc (Nat.le_refl _) _) hb17)
    have L17 := Lib.hid (L16.out.trans (s17.out.mono L16.out.size))
    have A17 := Lib.hid (A16.out.below s17.out A16.out.lt)
    have B17 := Lib.hid (B16.out.below s17.out B16.out.lt)
    have Z317 := Lib.hid (Z316.out.below s17.out Z316.out.lt)
    have C17 := Lib.hid (C16.out.below s17.out C16.out.lt)
    have D17 := Lib.hid (D16.out.below s17.out D16.out.lt)
    have K17 := Lib.hid (K16.out.below s17.out K16.out.lt)
    have M17 := Lib.hid (M16.out.below s17.out M16.out.lt)
    have O17 := Lib.hid (Blk.below (Blk.new w16 #[.string ⟨#[45, 51]⟩, .string ⟨#[50]⟩] 23) hb17 (by simp))
    clear hb17
    go_wp2
    have sv := Lib.hid (show Below w17.heap.size w17 (w17.alloc (.cells #[.string ⟨#[]⟩, .string ⟨#[]⟩] 23)) from (Below.refl _ _).alloc (Nat.le_refl _) _)
    have Av := Lib.hid (A17.out.below sv.out A17.out.lt)
    have Bv := Lib.hid (B17.out.below sv.out B17.out.lt)
    have Cv := Lib.hid (C17.out.below sv.out C17.out.lt)
    have Dv := Lib.hid (D17.out.below sv.out D17.out.lt)
    have Kv := Lib.hid (K17.out.below sv.out K17.out.lt)
    have Mv := Lib.hid (M17.out.below sv.out M17.out.lt)
    have Ov := Lib.hid (O17.out.below sv.out O17.out.lt)
    have Lv := Lib.hid (L17.out.trans (sv.out.mono L17.out.size))
    generalize w17.alloc (.cells #[.string ⟨#[]⟩, .string ⟨#[]⟩] 23) = wv at *
    try clear Ct1
    try clear Ct2
    try clear Ct3
    try clear Ct4
    try clear Ct5
    try clear Ct6
    try clear Ct7
    try clear Ct8
    try clear Ct9
    try clear Ct10
    try clear s0
    try clear s1
    try clear s2
    try clear s3
    try clear s4
    try clear s5
    try clear s6
    try clear s7
    try clear s8
    try clear s9
    try clear s10
    try clear s11
    try clear s12
    try clear s13
    try clear s14
    try clear s15
    try clear s16
    try clear s17
    try clear sx
    try clear sy
    try clear s5x
    try clear L1
    try clear L2
    try clear L3
    try clear L4
    try clear L5
    try clear L6
    try clear L7
    try clear L8
    try clear L9
    try clear L10
    try clear L11
    try clear L12
    try clear L13
    try clear L14
    try clear L15
    try clear L16
    try clear L17
    try clear Lx
    try clear Ly
    try clear L5x
    try clear N0
    try clear N1
    try clear N2
    try clear N3
    try clear N4
    try clear N5
    try clear N6
    try clear N7
    try clear N8
    try clear N9
    try clear N10
    try clear N11
    try clear N12
    try clear N13
    try clear N14
    try clear N15
    try clear N16
    try clear N17
    try clear Nx
    try clear Ny
    try clear N5x
    try clear hs0
    try clear hs1
    try clear hs2
    try clear hs3
    try clear hs4
    try clear hs5
    try clear hs6
    try clear hs7
    try clear hs8
    try clear hs9
    try clear hs10
    try clear hs11
    try clear hs12
    try clear hs13
    try clear hs14
    try clear hs15
    try clear hs16
    try clear hs17
    try clear hsx
    try clear hsy
    try clear hs5x
    try clear A0
    try clear A1
    try clear A2
    try clear A3
    try clear A4
    try clear A5
    try clear A6
    try clear A7
    try clear A8
    try clear A9
    try clear A10
    try clear A11
    try clear A12
    try clear A13
    try clear A14
    try clear A15
    try clear A16
    try clear A17
    try clear Ax
    try clear Ay
    try clear A5x
    try clear B0
    try clear B1
    try clear B2
    try clear B3
    try clear B4
    try clear B5
    try clear B6
    try clear B7
    try clear B8
    try clear B9
    try clear B10
    try clear B11
    try clear B12
    try clear B13
    try clear B14
    try clear B15
    try clear B16
    try clear B17
    try clear Bx
    try clear By
    try clear B5x
    try clear C0
    try clear C1
    try clear C2
    try clear C3
    try clear C4
    try clear C5
    try clear C6
    try clear C7
    try clear C8
    try clear C9
    try clear C10
    try clear C11
    try clear C12
    try clear C13
    try clear C14
    try clear C15
    try clear C16
    try clear C17
    try clear Cx
    try clear Cy
    try clear C5x
    try clear D0
    try clear D1
    try clear D2
    try clear D3
    try clear D4
    try clear D5
    try clear D6
    try clear D7
    try clear D8
    try clear D9
    try clear D10
    try clear D11
    try clear D12
    try clear D13
    try clear D14
    try clear D15
    try clear D16
    try clear D17
    try clear Dx
    try clear Dy
    try clear D5x
    try clear K0
    try clear K1
    try clear K2
    try clear K3
    try clear K4
    try clear K5
    try clear K6
    try clear K7
    try clear K8
    try clear K9
    try clear K10
    try clear K11
    try clear K12
    try clear K13
    try clear K14
    try clear K15
    try clear K16
    try clear K17
    try clear Kx
    try clear Ky
    try clear K5x
    try clear M0
    try clear M1
    try clear M2
    try clear M3
    try clear M4
    try clear M5
    try clear M6
    try clear M7
    try clear M8
    try clear M9
    try clear M10
    try clear M11
    try clear M12
    try clear M13
    try clear M14
    try clear M15
    try clear M16
    try clear M17
    try clear Mx
    try clear My
    try clear M5x
    try clear O0
    try clear O1
    try clear O2
    try clear O3
    try clear O4
    try clear O5
    try clear O6
    try clear O7
    try clear O8
    try clear O9
    try clear O10
    try clear O11
    try clear O12
    try clear O13
    try clear O14
    try clear O15
    try clear O16
    try clear O17
    try clear Ox
    try clear Oy
    try clear O5x
    try clear L0
    try clear hltB
    try clear hLs
    try clear c1
    try clear c2
    try clear c5
    try clear g1
    try clear g2
    try clear g5
    try clear h1
    try clear h2
    try clear h5
    try clear n1
    try clear n2
    try clear n3
    try clear n4
    try clear n5
    try clear sv
    obtain ⟨av0, av1, _, _, _⟩ := blk2 Av.out
    obtain ⟨bv0, bv1, _, _, _⟩ := blk2 Bv.out
    obtain ⟨cv0, cv1, _, _, _⟩ := blk2 Cv.out
    obtain ⟨dv0, dv1, _, _, _⟩ := blk2 Dv.out
    obtain ⟨kv0, kv1, _, _, _⟩ := blk2 Kv.out
    obtain ⟨mv0, mv1, _, _, _⟩ := blk2 Mv.out
    obtain ⟨ov0, ov1, _, _, _⟩ := blk2 Ov.out
    have T0 : Hid True := Lib.hid trivial
    have T1 : Hid True := Lib.hid trivial
    have T2 : Hid True := Lib.hid trivial
    have T3 : Hid True := Lib.hid trivial
    have T4 : Hid True := Lib.hid trivial
    have T5 : Hid True := Lib.hid trivial
    have T6 : Hid True := Lib.hid trivial
    have T7 : Hid True := Lib.hid trivial
    have T8 : Hid True := Lib.hid trivial
    have T9 : Hid True := Lib.hid trivial
    have T10 : Hid True := Lib.hid trivial
    have T11 : Hid True := Lib.hid trivial
    go_region_held3 (fun w' => (w'.cell? ⟨w1.heap.size, 0, none⟩ = some (.string ⟨#[45, 51]⟩) ∧ w'.cell? ⟨w1.heap.size, 1, none⟩ = some (.string ⟨#[50]⟩)) ∧ ((w'.cell? ⟨w2.heap.size, 0, none⟩ = some (.string ⟨#[48]⟩) ∧ w'.cell? ⟨w2.heap.size, 1, none⟩ = some (.string ⟨#[49]⟩)) ∧ ((w'.cell? ⟨w6.heap.size, 0, none⟩ = some (.string ⟨#[53]⟩) ∧ w'.cell? ⟨w6.heap.size, 1, none⟩ = some (.string ⟨#[54]⟩)) ∧ ((w'.cell? ⟨w9.heap.size, 0, none⟩ = some (.string ⟨#[45, 50]⟩) ∧ w'.cell? ⟨w9.heap.size, 1, none⟩ = some (.string ⟨#[49]⟩)) ∧ ((w'.cell? ⟨w13.heap.size, 0, none⟩ = some (.string ⟨#[45, 49, 55]⟩) ∧ w'.cell? ⟨w13.heap.size, 1, none⟩ = some (.string ⟨#[53, 48]⟩)) ∧ ((w'.cell? ⟨w15.heap.size, 0, none⟩ = some (.string ⟨#[49, 55]⟩) ∧ w'.cell? ⟨w15.heap.size, 1, none⟩ = some (.string ⟨#[53, 48]⟩)) ∧ ((w'.cell? ⟨w16.heap.size, 0, none⟩ = some (.string ⟨#[45, 51]⟩) ∧ w'.cell? ⟨w16.heap.size, 1, none⟩ = some (.string ⟨#[50]⟩))))))))) (go_keep)
      ((first
          | (have _tk := T0.out; go_at_call 24; (refine (is_any _ _ _).mono ?_); rintro e wr0 ⟨rfl, hbr0⟩
             clear _tk T0
             have sr0 := Lib.hid (step (p := wv) (by first | exact Below.refl _ _ | exact (Below.refl _ _).drew | exact (Below.refl _ _).alloc (Nat.le_refl _) _ | exact ((Below.refl _ _).alloc (Nat.le_refl _) _).drew | exact (Below.refl _ _).drew.alloc (Nat.le_refl _) _) hbr0)
             have Lr0 := Lib.hid (Lv.out.trans (sr0.out.mono Lv.out.size))
             have Ar0 := Lib.hid (Av.out.below sr0.out Av.out.lt)
             obtain ⟨ar00, ar01, _, _, _⟩ := blk2 Ar0.out
             have Br0 := Lib.hid (Bv.out.below sr0.out Bv.out.lt)
             obtain ⟨br00, br01, _, _, _⟩ := blk2 Br0.out
             have Cr0 := Lib.hid (Cv.out.below sr0.out Cv.out.lt)
             obtain ⟨cr00, cr01, _, _, _⟩ := blk2 Cr0.out
             have Dr0 := Lib.hid (Dv.out.below sr0.out Dv.out.lt)
             obtain ⟨dr00, dr01, _, _, _⟩ := blk2 Dr0.out
             have Kr0 := Lib.hid (Kv.out.below sr0.out Kv.out.lt)
             obtain ⟨kr00, kr01, _, _, _⟩ := blk2 Kr0.out
             have Mr0 := Lib.hid (Mv.out.below sr0.out Mv.out.lt)
             obtain ⟨mr00, mr01, _, _, _⟩ := blk2 Mr0.out
             have Or0 := Lib.hid (Ov.out.below sr0.out Ov.out.lt)
             obtain ⟨or00, or01, _, _, _⟩ := blk2 Or0.out
             clear hbr0)
          | (have _tk := T1.out; go_at_call 24; (refine (is_any _ _ _).mono ?_); rintro e wr1 ⟨rfl, hbr1⟩
             clear _tk T1
             have sr1 := Lib.hid (step (p := wr0) (by first | exact Below.refl _ _ | exact (Below.refl _ _).drew | exact (Below.refl _ _).alloc (Nat.le_refl _) _ | exact ((Below.refl _ _).alloc (Nat.le_refl _) _).drew | exact (Below.refl _ _).drew.alloc (Nat.le_refl _) _) hbr1)
             have Lr1 := Lib.hid (Lr0.out.trans (sr1.out.mono Lr0.out.size))
             have Ar1 := Lib.hid (Ar0.out.below sr1.out Ar0.out.lt)
             obtain ⟨ar10, ar11, _, _, _⟩ := blk2 Ar1.out
             have Br1 := Lib.hid (Br0.out.below sr1.out Br0.out.lt)
             obtain ⟨br10, br11, _, _, _⟩ := blk2 Br1.out
             have Cr1 := Lib.hid (Cr0.out.below sr1.out Cr0.out.lt)
             obtain ⟨cr10, cr11, _, _, _⟩ := blk2 Cr1.out
             have Dr1 := Lib.hid (Dr0.out.below sr1.out Dr0.out.lt)
             obtain ⟨dr10, dr11, _, _, _⟩ := blk2 Dr1.out
             have Kr1 := Lib.hid (Kr0.out.below sr1.out Kr0.out.lt)
             obtain ⟨kr10, kr11, _, _, _⟩ := blk2 Kr1.out
             have Mr1 := Lib.hid (Mr0.out.below sr1.out Mr0.out.lt)
             obtain ⟨mr10, mr11, _, _, _⟩ := blk2 Mr1.out
             have Or1 := Lib.hid (Or0.out.below sr1.out Or0.out.lt)
             obtain ⟨or10, or11, _, _, _⟩ := blk2 Or1.out
             clear hbr1)
          | (have _tk := T2.out; go_at_call 24; (refine (is_any _ _ _).mono ?_); rintro e wr2 ⟨rfl, hbr2⟩
             clear _tk T2
             have sr2 := Lib.hid (step (p := wr1) (by first | exact Below.refl _ _ | exact (Below.refl _ _).drew | exact (Below.refl _ _).alloc (Nat.le_refl _) _ | exact ((Below.refl _ _).alloc (Nat.le_refl _) _).drew | exact (Below.refl _ _).drew.alloc (Nat.le_refl _) _) hbr2)
             have Lr2 := Lib.hid (Lr1.out.trans (sr2.out.mono Lr1.out.size))
             have Ar2 := Lib.hid (Ar1.out.below sr2.out Ar1.out.lt)
             obtain ⟨ar20, ar21, _, _, _⟩ := blk2 Ar2.out
             have Br2 := Lib.hid (Br1.out.below sr2.out Br1.out.lt)
             obtain ⟨br20, br21, _, _, _⟩ := blk2 Br2.out
             have Cr2 := Lib.hid (Cr1.out.below sr2.out Cr1.out.lt)
             obtain ⟨cr20, cr21, _, _, _⟩ := blk2 Cr2.out
             have Dr2 := Lib.hid (Dr1.out.below sr2.out Dr1.out.lt)
             obtain ⟨dr20, dr21, _, _, _⟩ := blk2 Dr2.out
             have Kr2 := Lib.hid (Kr1.out.below sr2.out Kr1.out.lt)
             obtain ⟨kr20, kr21, _, _, _⟩ := blk2 Kr2.out
             have Mr2 := Lib.hid (Mr1.out.below sr2.out Mr1.out.lt)
             obtain ⟨mr20, mr21, _, _, _⟩ := blk2 Mr2.out
             have Or2 := Lib.hid (Or1.out.below sr2.out Or1.out.lt)
             obtain ⟨or20, or21, _, _, _⟩ := blk2 Or2.out
             clear hbr2)
          | (have _tk := T3.out; go_at_call 24; (refine (is_any _ _ _).mono ?_); rintro e wr3 ⟨rfl, hbr3⟩
             clear _tk T3
             have sr3 := Lib.hid (step (p := wr2) (by first | exact Below.refl _ _ | exact (Below.refl _ _).drew | exact (Below.refl _ _).alloc (Nat.le_refl _) _ | exact ((Below.refl _ _).alloc (Nat.le_refl _) _).drew | exact (Below.refl _ _).drew.alloc (Nat.le_refl _) _) hbr3)
             have Lr3 := Lib.hid (Lr2.out.trans (sr3.out.mono Lr2.out.size))
             have Ar3 := Lib.hid (Ar2.out.below sr3.out Ar2.out.lt)
             obtain ⟨ar30, ar31, _, _, _⟩ := blk2 Ar3.out
             have Br3 := Lib.hid (Br2.out.below sr3.out Br2.out.lt)
             obtain ⟨br30, br31, _, _, _⟩ := blk2 Br3.out
             have Cr3 := Lib.hid (Cr2.out.below sr3.out Cr2.out.lt)
             obtain ⟨cr30, cr31, _, _, _⟩ := blk2 Cr3.out
             have Dr3 := Lib.hid (Dr2.out.below sr3.out Dr2.out.lt)
             obtain ⟨dr30, dr31, _, _, _⟩ := blk2 Dr3.out
             have Kr3 := Lib.hid (Kr2.out.below sr3.out Kr2.out.lt)
             obtain ⟨kr30, kr31, _, _, _⟩ := blk2 Kr3.out
             have Mr3 := Lib.hid (Mr2.out.below sr3.out Mr2.out.lt)
             obtain ⟨mr30, mr31, _, _, _⟩ := blk2 Mr3.out
             have Or3 := Lib.hid (Or2.out.below sr3.out Or2.out.lt)
             obtain ⟨or30, or31, _, _, _⟩ := blk2 Or3.out
             clear hbr3)
          | (have _tk := T4.out; go_at_call 24; (refine (is_any _ _ _).mono ?_); rintro e wr4 ⟨rfl, hbr4⟩
             clear _tk T4
             have sr4 := Lib.hid (step (p := wr3) (by first | exact Below.refl _ _ | exact (Below.refl _ _).drew | exact (Below.refl _ _).alloc (Nat.le_refl _) _ | exact ((Below.refl _ _).alloc (Nat.le_refl _) _).drew | exact (Below.refl _ _).drew.alloc (Nat.le_refl _) _) hbr4)
             have Lr4 := Lib.hid (Lr3.out.trans (sr4.out.mono Lr3.out.size))
             have Ar4 := Lib.hid (Ar3.out.below sr4.out Ar3.out.lt)
             obtain ⟨ar40, ar41, _, _, _⟩ := blk2 Ar4.out
             have Br4 := Lib.hid (Br3.out.below sr4.out Br3.out.lt)
             obtain ⟨br40, br41, _, _, _⟩ := blk2 Br4.out
             have Cr4 := Lib.hid (Cr3.out.below sr4.out Cr3.out.lt)
             obtain ⟨cr40, cr41, _, _, _⟩ := blk2 Cr4.out
             have Dr4 := Lib.hid (Dr3.out.below sr4.out Dr3.out.lt)
             obtain ⟨dr40, dr41, _, _, _⟩ := blk2 Dr4.out
             have Kr4 := Lib.hid (Kr3.out.below sr4.out Kr3.out.lt)
             obtain ⟨kr40, kr41, _, _, _⟩ := blk2 Kr4.out
             have Mr4 := Lib.hid (Mr3.out.below sr4.out Mr3.out.lt)
             obtain ⟨mr40, mr41, _, _, _⟩ := blk2 Mr4.out
             have Or4 := Lib.hid (Or3.out.below sr4.out Or3.out.lt)
             obtain ⟨or40, or41, _, _, _⟩ := blk2 Or4.out
             clear hbr4)
          | (have _tk := T5.out; go_at_call 24; (refine (is_any _ _ _).mono ?_); rintro e wr5 ⟨rfl, hbr5⟩
             clear _tk T5
             have sr5 := Lib.hid (step (p := wr4) (by first | exact Below.refl _ _ | exact (Below.refl _ _).drew | exact (Below.refl _ _).alloc (Nat.le_refl _) _ | exact ((Below.refl _ _).alloc (Nat.le_refl _) _).drew | exact (Below.refl _ _).drew.alloc (Nat.le_refl _) _) hbr5)
             have Lr5 := Lib.hid (Lr4.out.trans (sr5.out.mono Lr4.out.size))
             have Ar5 := Lib.hid (Ar4.out.below sr5.out Ar4.out.lt)
             obtain ⟨ar50, ar51, _, _, _⟩ := blk2 Ar5.out
             have Br5 := Lib.hid (Br4.out.below sr5.out Br4.out.lt)
             obtain ⟨br50, br51, _, _, _⟩ := blk2 Br5.out
             have Cr5 := Lib.hid (Cr4.out.below sr5.out Cr4.out.lt)
             obtain ⟨cr50, cr51, _, _, _⟩ := blk2 Cr5.out
             have Dr5 := Lib.hid (Dr4.out.below sr5.out Dr4.out.lt)
             obtain ⟨dr50, dr51, _, _, _⟩ := blk2 Dr5.out
             have Kr5 := Lib.hid (Kr4.out.below sr5.out Kr4.out.lt)
             obtain ⟨kr50, kr51, _, _, _⟩ := blk2 Kr5.out
             have Mr5 := Lib.hid (Mr4.out.below sr5.out Mr4.out.lt)
             obtain ⟨mr50, mr51, _, _, _⟩ := blk2 Mr5.out
             have Or5 := Lib.hid (Or4.out.below sr5.out Or4.out.lt)
             obtain ⟨or50, or51, _, _, _⟩ := blk2 Or5.out
             clear hbr5)
          | (have _tk := T6.out; go_at_call 14; (refine (CP.out _ (by first | exact Hg.out.below Lr5.out | exact Hg.out.below Lr5.out.drew)).mono ?_); rintro e wr6 ⟨rfl, hbr6⟩
             clear _tk T6
             have sr6 := Lib.hid (step (p := wr5) (by first | exact Below.refl _ _ | exact (Below.refl _ _).drew | exact (Below.refl _ _).alloc (Nat.le_refl _) _ | exact ((Below.refl _ _).alloc (Nat.le_refl _) _).drew | exact (Below.refl _ _).drew.alloc (Nat.le_refl _) _) hbr6)
             have Lr6 := Lib.hid (Lr5.out.trans (sr6.out.mono Lr5.out.size))
             have Ar6 := Lib.hid (Ar5.out.below sr6.out Ar5.out.lt)
             obtain ⟨ar60, ar61, _, _, _⟩ := blk2 Ar6.out
             have Br6 := Lib.hid (Br5.out.below sr6.out Br5.out.lt)
             obtain ⟨br60, br61, _, _, _⟩ := blk2 Br6.out
             have Cr6 := Lib.hid (Cr5.out.below sr6.out Cr5.out.lt)
             obtain ⟨cr60, cr61, _, _, _⟩ := blk2 Cr6.out
             have Dr6 := Lib.hid (Dr5.out.below sr6.out Dr5.out.lt)
             obtain ⟨dr60, dr61, _, _, _⟩ := blk2 Dr6.out
             have Kr6 := Lib.hid (Kr5.out.below sr6.out Kr5.out.lt)
             obtain ⟨kr60, kr61, _, _, _⟩ := blk2 Kr6.out
             have Mr6 := Lib.hid (Mr5.out.below sr6.out Mr5.out.lt)
             obtain ⟨mr60, mr61, _, _, _⟩ := blk2 Mr6.out
             have Or6 := Lib.hid (Or5.out.below sr6.out Or5.out.lt)
             obtain ⟨or60, or61, _, _, _⟩ := blk2 Or6.out
             clear hbr6)
          | (have _tk := T7.out; go_at_call 24; (refine (is_any _ _ _).mono ?_); rintro e wr7 ⟨rfl, hbr7⟩
             clear _tk T7
             have sr7 := Lib.hid (step (p := wr6) (by first | exact Below.refl _ _ | exact (Below.refl _ _).drew | exact (Below.refl _ _).alloc (Nat.le_refl _) _ | exact ((Below.refl _ _).alloc (Nat.le_refl _) _).drew | exact (Below.refl _ _).drew.alloc (Nat.le_refl _) _) hbr7)
             have Lr7 := Lib.hid (Lr6.out.trans (sr7.out.mono Lr6.out.size))
             have Ar7 := Lib.hid (Ar6.out.below sr7.out Ar6.out.lt)
             obtain ⟨ar70, ar71, _, _, _⟩ := blk2 Ar7.out
             have Br7 := Lib.hid (Br6.out.below sr7.out Br6.out.lt)
             obtain ⟨br70, br71, _, _, _⟩ := blk2 Br7.out
             have Cr7 := Lib.hid (Cr6.out.below sr7.out Cr6.out.lt)
             obtain ⟨cr70, cr71, _, _, _⟩ := blk2 Cr7.out
             have Dr7 := Lib.hid (Dr6.out.below sr7.out Dr6.out.lt)
             obtain ⟨dr70, dr71, _, _, _⟩ := blk2 Dr7.out
             have Kr7 := Lib.hid (Kr6.out.below sr7.out Kr6.out.lt)
             obtain ⟨kr70, kr71, _, _, _⟩ := blk2 Kr7.out
             have Mr7 := Lib.hid (Mr6.out.below sr7.out Mr6.out.lt)
             obtain ⟨mr70, mr71, _, _, _⟩ := blk2 Mr7.out
             have Or7 := Lib.hid (Or6.out.below sr7.out Or6.out.lt)
             obtain ⟨or70, or71, _, _, _⟩ := blk2 Or7.out
             clear hbr7)
          | (have _tk := T8.out; go_at_call 24; (refine (is_any _ _ _).mono ?_); rintro e wr8 ⟨rfl, hbr8⟩
             clear _tk T8
             have sr8 := Lib.hid (step (p := wr7) (by first | exact Below.refl _ _ | exact (Below.refl _ _).drew | exact (Below.refl _ _).alloc (Nat.le_refl _) _ | exact ((Below.refl _ _).alloc (Nat.le_refl _) _).drew | exact (Below.refl _ _).drew.alloc (Nat.le_refl _) _) hbr8)
             have Lr8 := Lib.hid (Lr7.out.trans (sr8.out.mono Lr7.out.size))
             have Ar8 := Lib.hid (Ar7.out.below sr8.out Ar7.out.lt)
             obtain ⟨ar80, ar81, _, _, _⟩ := blk2 Ar8.out
             have Br8 := Lib.hid (Br7.out.below sr8.out Br7.out.lt)
             obtain ⟨br80, br81, _, _, _⟩ := blk2 Br8.out
             have Cr8 := Lib.hid (Cr7.out.below sr8.out Cr7.out.lt)
             obtain ⟨cr80, cr81, _, _, _⟩ := blk2 Cr8.out
             have Dr8 := Lib.hid (Dr7.out.below sr8.out Dr7.out.lt)
             obtain ⟨dr80, dr81, _, _, _⟩ := blk2 Dr8.out
             have Kr8 := Lib.hid (Kr7.out.below sr8.out Kr7.out.lt)
             obtain ⟨kr80, kr81, _, _, _⟩ := blk2 Kr8.out
             have Mr8 := Lib.hid (Mr7.out.below sr8.out Mr7.out.lt)
             obtain ⟨mr80, mr81, _, _, _⟩ := blk2 Mr8.out
             have Or8 := Lib.hid (Or7.out.below sr8.out Or7.out.lt)
             obtain ⟨or80, or81, _, _, _⟩ := blk2 Or8.out
             clear hbr8)
          | (have _tk := T9.out; go_at_call 23; (refine (CC.out _ (by first | exact Hg.out.below Lr8.out | exact Hg.out.below Lr8.out.drew)).mono ?_); rintro e wr9 ⟨rfl, hbr9⟩
             clear _tk T9
             have sr9 := Lib.hid (step (p := wr8) (by first | exact Below.refl _ _ | exact (Below.refl _ _).drew | exact (Below.refl _ _).alloc (Nat.le_refl _) _ | exact ((Below.refl _ _).alloc (Nat.le_refl _) _).drew | exact (Below.refl _ _).drew.alloc (Nat.le_refl _) _) hbr9)
             have Lr9 := Lib.hid (Lr8.out.trans (sr9.out.mono Lr8.out.size))
             have Ar9 := Lib.hid (Ar8.out.below sr9.out Ar8.out.lt)
             obtain ⟨ar90, ar91, _, _, _⟩ := blk2 Ar9.out
             have Br9 := Lib.hid (Br8.out.below sr9.out Br8.out.lt)
             obtain ⟨br90, br91, _, _, _⟩ := blk2 Br9.out
             have Cr9 := Lib.hid (Cr8.out.below sr9.out Cr8.out.lt)
             obtain ⟨cr90, cr91, _, _, _⟩ := blk2 Cr9.out
             have Dr9 := Lib.hid (Dr8.out.below sr9.out Dr8.out.lt)
             obtain ⟨dr90, dr91, _, _, _⟩ := blk2 Dr9.out
             have Kr9 := Lib.hid (Kr8.out.below sr9.out Kr8.out.lt)
             obtain ⟨kr90, kr91, _, _, _⟩ := blk2 Kr9.out
             have Mr9 := Lib.hid (Mr8.out.below sr9.out Mr8.out.lt)
             obtain ⟨mr90, mr91, _, _, _⟩ := blk2 Mr9.out
             have Or9 := Lib.hid (Or8.out.below sr9.out Or8.out.lt)
             obtain ⟨or90, or91, _, _, _⟩ := blk2 Or9.out
             clear hbr9)
          | (have _tk := T10.out; go_at_call 17; (with_reducible refine (CV.out _ (by first | exact Hg.out.below Lr9.out | exact Hg.out.below Lr9.out.drew)).mono ?_); rintro e wr10 ⟨rfl, hbr10⟩
             clear _tk T10
             have sr10 := Lib.hid (step (p := wr9) (by first | exact Below.refl _ _ | exact (Below.refl _ _).drew | exact (Below.refl _ _).alloc (Nat.le_refl _) _ | exact ((Below.refl _ _).alloc (Nat.le_refl _) _).drew | exact (Below.refl _ _).drew.alloc (Nat.le_refl _) _) hbr10)
             have Lr10 := Lib.hid (Lr9.out.trans (sr10.out.mono Lr9.out.size))
             have Ar10 := Lib.hid (Ar9.out.below sr10.out Ar9.out.lt)
             obtain ⟨ar100, ar101, _, _, _⟩ := blk2 Ar10.out
             have Br10 := Lib.hid (Br9.out.below sr10.out Br9.out.lt)
             obtain ⟨br100, br101, _, _, _⟩ := blk2 Br10.out
             have Cr10 := Lib.hid (Cr9.out.below sr10.out Cr9.out.lt)
             obtain ⟨cr100, cr101, _, _, _⟩ := blk2 Cr10.out
             have Dr10 := Lib.hid (Dr9.out.below sr10.out Dr9.out.lt)
             obtain ⟨dr100, dr101, _, _, _⟩ := blk2 Dr10.out
             have Kr10 := Lib.hid (Kr9.out.below sr10.out Kr9.out.lt)
             obtain ⟨kr100, kr101, _, _, _⟩ := blk2 Kr10.out
             have Mr10 := Lib.hid (Mr9.out.below sr10.out Mr9.out.lt)
             obtain ⟨mr100, mr101, _, _, _⟩ := blk2 Mr10.out
             have Or10 := Lib.hid (Or9.out.below sr10.out Or9.out.lt)
             obtain ⟨or100, or101, _, _, _⟩ := blk2 Or10.out
             clear hbr10)
          | (have _tk := T11.out; go_at_call 17; (with_reducible refine (CI.out _ (by first | exact Hg.out.below Lr10.out | exact Hg.out.below Lr10.out.drew)).mono ?_); rintro e wr11 ⟨rfl, hbr11⟩
             clear _tk T11
             have sr11 := Lib.hid (step (p := wr10) (by first | exact Below.refl _ _ | exact (Below.refl _ _).drew | exact (Below.refl _ _).alloc (Nat.le_refl _) _ | exact ((Below.refl _ _).alloc (Nat.le_refl _) _).drew | exact (Below.refl _ _).drew.alloc (Nat.le_refl _) _) hbr11)
             have Lr11 := Lib.hid (Lr10.out.trans (sr11.out.mono Lr10.out.size))
             have Ar11 := Lib.hid (Ar10.out.below sr11.out Ar10.out.lt)
             obtain ⟨ar110, ar111, _, _, _⟩ := blk2 Ar11.out
             have Br11 := Lib.hid (Br10.out.below sr11.out Br10.out.lt)
             obtain ⟨br110, br111, _, _, _⟩ := blk2 Br11.out
             have Cr11 := Lib.hid (Cr10.out.below sr11.out Cr10.out.lt)
             obtain ⟨cr110, cr111, _, _, _⟩ := blk2 Cr11.out
             have Dr11 := Lib.hid (Dr10.out.below sr11.out Dr10.out.lt)
             obtain ⟨dr110, dr111, _, _, _⟩ := blk2 Dr11.out
             have Kr11 := Lib.hid (Kr10.out.below sr11.out Kr10.out.lt)
             obtain ⟨kr110, kr111, _, _, _⟩ := blk2 Kr11.out
             have Mr11 := Lib.hid (Mr10.out.below sr11.out Mr10.out.lt)
             obtain ⟨mr110, mr111, _, _, _⟩ := blk2 Mr11.out
             have Or11 := Lib.hid (Or10.out.below sr11.out Or10.out.lt)
             obtain ⟨or110, or111, _, _, _⟩ := blk2 Or11.out
             clear hbr11)))
    all_goals go_wp2
    all_goals exact bodyPost_ret (v := .bool true) (by simp [results, Tryz.results11, go_sem, *]) rfl ⟨rfl, (by first | exact Lr11.out | exact Lr11.out.drew)⟩
end Go.Proofs.YtgeoidnleagloaaGreatDoor
