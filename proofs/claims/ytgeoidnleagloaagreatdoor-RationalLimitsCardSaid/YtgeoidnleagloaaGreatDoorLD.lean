/- The law RationalLimits: the walk. -/
import Derived.Test.YtgeoidnleagloaaGreatDoorLB
import Derived.Test.YtgeoidnleagloaaGreatDoorLC
set_option linter.unusedVariables false
set_option linter.unusedSimpArgs false
namespace Go.Proofs.YtgeoidnleagloaaGreatDoor
open Go.RowKit Yk

set_option maxRecDepth 100000 in
set_option maxHeartbeats 4000000 in
theorem limits_any (a b : Int) (ha0 : -9223372036854775808 ≤ a) (ha1 : a ≤ 9223372036854775807) (hb0 : -9223372036854775808 ≤ b) (hb1 : b ≤ 9223372036854775807) (w : World) (hg : Glob w) :
    Calls Tryz.prog 5 #[.int .i64 a, .int .i64 b] w fun e w' => e = .returned (.bool true) ∧ Below w.heap.size w w' := by
  have Hg := Lib.hid hg
  have hmx : Tryz.prog.follows .mixedOrders = true := by kernel_rfl
  go_enter Tryz.func5, Tryz.ntmps5
  go_wp2_with fail
  refine (sane_any _ hg).mono ?_
  rintro e w1 ⟨rfl, hb1⟩
  have L1 := Lib.hid hb1
  clear hg hb1
  go_wp2_with fail
  refine (pick_any a 200 ha0 ha1 (by decide) (by decide) _).mono ?_
  rintro e _ ⟨k, rfl, hk0, hk1, rfl⟩
  obtain ⟨n, rfl⟩ := Int.eq_ofNat_of_zero_le hk0
  have hn : n < 200 := by omega
  clear hk0 hk1
  go_wp2_with fail
  refine (pick_any b 200 hb0 (by assumption) (by decide) (by decide) _).mono ?_
  rintro e _ ⟨k, rfl, hk0, hk1, rfl⟩
  obtain ⟨m, rfl⟩ := Int.eq_ofNat_of_zero_le hk0
  have hm : m < 200 := by omega
  clear hk0 hk1
  go_wp2
  go_loop [6, 7] (fun vs vi => PowL n vs vi) (fun _ vi => n - (intOf vi).toNat)
  case atStart => exact ⟨0, _, Nat.zero_le _, rfl, rfl, rfl⟩
  case round =>
    obtain ⟨k, t, hk, rfl, rfl, ht⟩ := hrel
    have hts : t.size < 2000 := by rw [← ba_len, ht]; simp; omega
    have Ht := Lib.hid ht
    clear ht
    by_cases hlt : k < n
    · go_wp2
      go_round
      case rel => exact ⟨k + 1, _, by omega, by go_num, rfl, by simp [Ht.out, List.replicate_succ']⟩
      case measure => simp [intOf]; omega
    · obtain rfl : k = n := by omega
      obtain rfl : t = tenT k := ba_ext (by rw [Ht.out]; rfl)
      clear Ht hlt hk hts
      go_wp2
      go_loop [8, 9] (fun vs vi => PowL m vs vi) (fun _ vi => m - (intOf vi).toNat)
      case atStart => exact ⟨0, _, Nat.zero_le _, rfl, rfl, rfl⟩
      case round =>
        obtain ⟨j, t, hj, rfl, rfl, ht⟩ := hrel
        have hts : t.size < 2000 := by rw [← ba_len, ht]; simp; omega
        have Ht := Lib.hid ht
        clear ht
        by_cases hlt : j < m
        · go_wp2
          go_round
          case rel => exact ⟨j + 1, _, by omega, by go_num, rfl, by simp [Ht.out, List.replicate_succ']⟩
          case measure => simp [intOf]; omega
        · obtain rfl : j = m := by omega
          obtain rfl : t = tenT j := ba_ext (by rw [Ht.out]; rfl)
          clear Ht hlt hj hts
          obtain ⟨⟨⟨z1, z2⟩, ze⟩, hz⟩ : ∃ x, rMul (tenT k, ⟨#[49]⟩) (tenT j, ⟨#[49]⟩) = x := ⟨_, rfl⟩
          obtain ⟨⟨⟨s1, s2⟩, se⟩, hs⟩ : ∃ x, rAdd (tenT k, ⟨#[49]⟩) (⟨#[49]⟩, tenT j) = x := ⟨_, rfl⟩
          have sz : ∀ p, p < 200 → (tenT p).size ≤ maxLen := fun p hp => by rw [← ba_len, tenT_list]; simp [maxLen]; omega
          obtain ⟨cv, hcv⟩ : ∃ cv, cmpI (k : Int) (j : Int) = cv := ⟨_, rfl⟩
          obtain ⟨av, hav⟩ : ∃ av : Int, (if k = 0 ∧ j = 0 then 0 else 1) = av := ⟨_, rfl⟩
          have s1z : (⟨#[49]⟩ : ByteArray).size ≤ maxLen := by decide
          have szx : Sz (tenT k, ⟨#[49]⟩) := ⟨sz k hn, s1z⟩
          have szy : Sz (tenT j, ⟨#[49]⟩) := ⟨sz j hm, s1z⟩
          have szs : Sz (⟨#[49]⟩, tenT j) := ⟨s1z, sz j hm⟩
          have szo : Sz (⟨#[49]⟩, ⟨#[49]⟩) := ⟨by decide, by decide⟩
          have CM : Hid (∀ W, Glob W → Calls Tryz.prog 25 #[.agg #[.string (tenT k), .string ⟨#[49]⟩], .agg #[.string (tenT j), .string ⟨#[49]⟩]] W fun e w' => e = .returned (.tuple #[.agg #[.string z1, .string z2], .int .i64 ze]) ∧ Below W.heap.size W w') := Lib.hid fun W hg => by
            have := ratMul_any _ _ W hg szx szy
            rw [hz] at this
            exact this
          have CD : Hid (∀ W, Glob W → Calls Tryz.prog 26 #[.agg #[.string ⟨#[49]⟩, .string ⟨#[49]⟩], .agg #[.string (tenT j), .string ⟨#[49]⟩]] W fun e w' => e = .returned (.tuple #[.agg #[.string ⟨#[49]⟩, .string (tenT j)], .int .i64 0]) ∧ Below W.heap.size W w') := Lib.hid fun W hg => by
            have := ratDiv_any _ _ W hg szo szy
            rw [lim_div hm] at this
            exact this
          have CA : Hid (∀ W, Glob W → Calls Tryz.prog 27 #[.agg #[.string (tenT k), .string ⟨#[49]⟩], .agg #[.string ⟨#[49]⟩, .string (tenT j)]] W fun e w' => e = .returned (.tuple #[.agg #[.string s1, .string s2], .int .i64 se]) ∧ Below W.heap.size W w') := Lib.hid fun W hg => by
            have := ratAdd_any _ _ W hg szx szs
            rw [hs] at this
            exact this
          have CC : Hid (∀ W, Glob W → Calls Tryz.prog 23 #[.agg #[.string (tenT k), .string ⟨#[49]⟩], .agg #[.string (tenT j), .string ⟨#[49]⟩]] W fun e w' => e = .returned (.int .i64 cv) ∧ Below W.heap.size W w') := Lib.hid fun W hg => by
            have := ratCompare_any _ _ W hg szx szy
            rw [lim_cmp hn hm, hcv] at this
            exact this
          have CE : Hid (∀ W, Glob W → Calls Tryz.prog 23 #[.agg #[.string (tenT k), .string ⟨#[49]⟩], .agg #[.string ⟨#[49]⟩, .string (tenT j)]] W fun e w' => e = .returned (.int .i64 av) ∧ Below W.heap.size W w') := Lib.hid fun W hg => by
            have := ratCompare_any _ _ W hg szx szs
            rw [lim_above hn hm, hav] at this
            exact this
          have FT : Hid ((k + j < 200 → ze = 0 ∧ se = 0) ∧ (¬ k + j < 200 → (z1 = ⟨#[]⟩ ∧ z2 = ⟨#[]⟩ ∧ ze = 40) ∧ se = 40)) := Lib.hid ⟨fun h => by
              have e1 := lim_mul_ok hn hm h
              have e2 := lim_add_ok hn hm h
              rw [hz] at e1; rw [hs] at e2
              exact ⟨e1, e2⟩, fun h => by
              have e1 := lim_mul_no hn hm h
              have e2 := lim_add_no (n := k) (m := j) h
              rw [hz] at e1; rw [hs] at e2
              simp only [noR, Prod.mk.injEq] at e1 e2
              exact ⟨⟨e1.1.1, e1.1.2, e1.2⟩, e2.2⟩⟩
          have FC := Lib.hid hcv
          have FA := Lib.hid hav
          clear hcv hav
          clear hz hs sz s1z szx szy szs szo
          go_wp2_with fail
          refine (is_any _ _ _).mono ?_
          rintro e w2 ⟨rfl, hb2⟩
          have s2_ := Lib.hid (step (p := w1) (by first | exact Below.refl _ _ | exact (Below.refl _ _).drew | exact (Below.refl _ _).alloc (Nat.le_refl _) _ | exact ((Below.refl _ _).alloc (Nat.le_refl _) _).drew | exact (Below.refl _ _).drew.alloc (Nat.le_refl _) _) hb2)
          have L2 := Lib.hid (L1.out.trans (s2_.out.mono L1.out.size))
          clear hb2
          go_wp2_with fail
          refine (is_any _ _ _).mono ?_
          rintro e w3 ⟨rfl, hb3⟩
          have s3_ := Lib.hid (step (p := w2) (by first | exact Below.refl _ _ | exact (Below.refl _ _).drew | exact (Below.refl _ _).alloc (Nat.le_refl _) _ | exact ((Below.refl _ _).alloc (Nat.le_refl _) _).drew | exact (Below.refl _ _).drew.alloc (Nat.le_refl _) _) hb3)
          have L3 := Lib.hid (L2.out.trans (s3_.out.mono L2.out.size))
          have X3 := Lib.hid (Blk.below (Blk.new w2 #[.string (tenT k), .string ⟨#[49]⟩] 23) hb3 (by simp))
          clear hb3
          obtain ⟨x31, x32, _, _, x35⟩ := blk2 X3.out
          go_wp2_with fail
          refine (CM.out _ (by first | exact Hg.out.below L3.out | exact Hg.out.below L3.out.drew | exact Hg.out.below (L3.out.alloc L3.out.size _) | exact Hg.out.below (L3.out.alloc L3.out.size _).drew)).mono ?_
          rintro e w4 ⟨rfl, hb4⟩
          have s4_ := Lib.hid (step (p := w3) (by first | exact Below.refl _ _ | exact (Below.refl _ _).drew | exact (Below.refl _ _).alloc (Nat.le_refl _) _ | exact ((Below.refl _ _).alloc (Nat.le_refl _) _).drew | exact (Below.refl _ _).drew.alloc (Nat.le_refl _) _) hb4)
          have L4 := Lib.hid (L3.out.trans (s4_.out.mono L3.out.size))
          have X4 := Lib.hid (X3.out.below s4_.out X3.out.lt)
          have Y4 := Lib.hid (Blk.below (Blk.new w3 #[.string (tenT j), .string ⟨#[49]⟩] 23) hb4 (by simp))
          clear hb4
          go_wp2
          have s4x := Lib.hid (show Below w4.heap.size w4 (w4.alloc (.cells #[.string z1, .string z2] 23)) from (Below.refl _ _).alloc (Nat.le_refl _) _)
          have Zx := Lib.hid (Blk.new w4 #[.string z1, .string z2] 23)
          have Xx := Lib.hid (X4.out.below s4x.out X4.out.lt)
          have Yx := Lib.hid (Y4.out.below s4x.out Y4.out.lt)
          have Lx := Lib.hid (L4.out.trans (s4x.out.mono L4.out.size))
          generalize w4.alloc (.cells #[.string z1, .string z2] 23) = wx at *
          clear x31 x32 x35
          obtain ⟨c1, c2, _, _, c5⟩ := blk2 Yx.out
          go_region_held3 (fun w' => (w'.cell? ⟨w3.heap.size, 0, none⟩ = some (.string (tenT j))) ∧ (w'.cell? ⟨w3.heap.size, 1, none⟩ = some (.string ⟨#[49]⟩))) (go_keep)
            ((first
              | (go_at_call 24; refine (is_any _ _ _).mono ?_; rintro e w5 ⟨rfl, hb5⟩
                 have s5_ := Lib.hid (step (p := wx) (by first | exact Below.refl _ _ | exact (Below.refl _ _).drew | exact (Below.refl _ _).alloc (Nat.le_refl _) _ | exact ((Below.refl _ _).alloc (Nat.le_refl _) _).drew | exact (Below.refl _ _).drew.alloc (Nat.le_refl _) _) hb5)
                 have L5 := Lib.hid (Lx.out.trans (s5_.out.mono Lx.out.size))
                 have hs5 := s5_.out.size
                 try have N5 := Lib.hid (Blk.below (w := (wx.alloc (.cells #[.string ⟨#[]⟩, .string ⟨#[]⟩] 23)).drew) (Blk.new wx _ _) hb5 (by simp))
                 have X5 := Lib.hid (Xx.out.below s5_.out Xx.out.lt)
                 have Y5 := Lib.hid (Yx.out.below s5_.out Yx.out.lt)
                 have Z5 := Lib.hid (Zx.out.below s5_.out Zx.out.lt)
                 obtain ⟨g1, g2, _, _, g5⟩ := blk2 Y5.out
                 clear hb5)
              | (go_at_call 26; refine (CD.out _ (by first | exact Hg.out.below L5.out | exact Hg.out.below L5.out.drew | exact Hg.out.below (L5.out.alloc L5.out.size _) | exact Hg.out.below (L5.out.alloc L5.out.size _).drew)).mono ?_; rintro e w6 ⟨rfl, hb6⟩
                 have s6_ := Lib.hid (step (p := w5) (by first | exact Below.refl _ _ | exact (Below.refl _ _).drew | exact (Below.refl _ _).alloc (Nat.le_refl _) _ | exact ((Below.refl _ _).alloc (Nat.le_refl _) _).drew | exact (Below.refl _ _).drew.alloc (Nat.le_refl _) _) hb6)
                 have L6 := Lib.hid (L5.out.trans (s6_.out.mono L5.out.size))
                 have hs6 := s6_.out.size
                 have X6 := Lib.hid (X5.out.below s6_.out X5.out.lt)
                 have Y6 := Lib.hid (Y5.out.below s6_.out Y5.out.lt)
                 have Z6 := Lib.hid (Z5.out.below s6_.out Z5.out.lt)
                 obtain ⟨h1, h2, _, _, h5⟩ := blk2 Y6.out
                 first
                   | (have N6 := Lib.hid (N5.out.below s6_.out N5.out.lt); obtain ⟨n1, n2, n3, n4, n5⟩ := blk2 N6.out
                      have m1 : ¬ (wx.heap.size = w3.heap.size) := by omega
                      have m2 : ¬ (w3.heap.size = wx.heap.size) := by omega)
                   | (have N6 := Lib.hid (Blk.below (w := w5.alloc (.cells #[.string ⟨#[]⟩, .string ⟨#[]⟩] 23)) (Blk.new w5 _ _) hb6 (by simp)); obtain ⟨n1, n2, n3, n4, n5⟩ := blk2 N6.out
                      have m1 : ¬ (w5.heap.size = w3.heap.size) := by omega
                      have m2 : ¬ (w3.heap.size = w5.heap.size) := by omega)
                   | skip
                 clear hb6)))
          all_goals
            first
              | (have hchk : Hid (Blk w6 wx.heap.size #[.string ⟨#[]⟩, .string ⟨#[]⟩] 23) := N6; clear hchk; have Ly := Lib.hid ((L6.out.setCell (p := ⟨wx.heap.size, 0, none⟩) (by have := Lx.out.size; have := hs5; simp; omega) (.string ⟨#[49]⟩)).setCell (p := ⟨wx.heap.size, 1, none⟩) (by have := Lx.out.size; have := hs5; simp; omega) (.string (tenT j))); have Xy := Lib.hid (Blk.setOther (Blk.setOther X6.out (a := ⟨wx.heap.size, 0, none⟩) (by have := Xx.out.lt; simp; omega) (.string ⟨#[49]⟩)) (a := ⟨wx.heap.size, 1, none⟩) (by have := Xx.out.lt; simp; omega) (.string (tenT j))); have Yy := Lib.hid (Blk.setOther (Blk.setOther Y6.out (a := ⟨wx.heap.size, 0, none⟩) (by have := Yx.out.lt; simp; omega) (.string ⟨#[49]⟩)) (a := ⟨wx.heap.size, 1, none⟩) (by have := Yx.out.lt; simp; omega) (.string (tenT j))); have Zy := Lib.hid (Blk.setOther (Blk.setOther Z6.out (a := ⟨wx.heap.size, 0, none⟩) (by have := Zx.out.lt; simp; omega) (.string ⟨#[49]⟩)) (a := ⟨wx.heap.size, 1, none⟩) (by have := Zx.out.lt; simp; omega) (.string (tenT j))); have Sy := Lib.hid (show Blk ((w6.setCell ⟨wx.heap.size, 0, none⟩ (.string ⟨#[49]⟩)).setCell ⟨wx.heap.size, 1, none⟩ (.string (tenT j))) wx.heap.size #[.string ⟨#[49]⟩, .string (tenT j)] 23 from (N6.out.set 0 (.string ⟨#[49]⟩)).set 1 (.string (tenT j))); generalize (w6.setCell ⟨wx.heap.size, 0, none⟩ (.string ⟨#[49]⟩)).setCell ⟨wx.heap.size, 1, none⟩ (.string (tenT j)) = wy at *; generalize wx.heap.size = bs at *)
              | (have hchk : Hid (Blk w6 w5.heap.size #[.string ⟨#[]⟩, .string ⟨#[]⟩] 23) := N6; clear hchk; have Ly := Lib.hid ((L6.out.setCell (p := ⟨w5.heap.size, 0, none⟩) (by have := Lx.out.size; have := hs5; simp; omega) (.string ⟨#[49]⟩)).setCell (p := ⟨w5.heap.size, 1, none⟩) (by have := Lx.out.size; have := hs5; simp; omega) (.string (tenT j))); have Xy := Lib.hid (Blk.setOther (Blk.setOther X6.out (a := ⟨w5.heap.size, 0, none⟩) (by have := Xx.out.lt; simp; omega) (.string ⟨#[49]⟩)) (a := ⟨w5.heap.size, 1, none⟩) (by have := Xx.out.lt; simp; omega) (.string (tenT j))); have Yy := Lib.hid (Blk.setOther (Blk.setOther Y6.out (a := ⟨w5.heap.size, 0, none⟩) (by have := Yx.out.lt; simp; omega) (.string ⟨#[49]⟩)) (a := ⟨w5.heap.size, 1, none⟩) (by have := Yx.out.lt; simp; omega) (.string (tenT j))); have Zy := Lib.hid (Blk.setOther (Blk.setOther Z6.out (a := ⟨w5.heap.size, 0, none⟩) (by have := Zx.out.lt; simp; omega) (.string ⟨#[49]⟩)) (a := ⟨w5.heap.size, 1, none⟩) (by have := Zx.out.lt; simp; omega) (.string (tenT j))); have Sy := Lib.hid (show Blk ((w6.setCell ⟨w5.heap.size, 0, none⟩ (.string ⟨#[49]⟩)).setCell ⟨w5.heap.size, 1, none⟩ (.string (tenT j))) w5.heap.size #[.string ⟨#[49]⟩, .string (tenT j)] 23 from (N6.out.set 0 (.string ⟨#[49]⟩)).set 1 (.string (tenT j))); generalize (w6.setCell ⟨w5.heap.size, 0, none⟩ (.string ⟨#[49]⟩)).setCell ⟨w5.heap.size, 1, none⟩ (.string (tenT j)) = wy at *; generalize w5.heap.size = bs at *)
              | (have Ly := Lib.hid (L6.out.alloc L6.out.size (.cells #[.string ⟨#[49]⟩, .string (tenT j)] 23)); have Xy := Lib.hid (Blk.alloc X6.out (.cells #[.string ⟨#[49]⟩, .string (tenT j)] 23)); have Yy := Lib.hid (Blk.alloc Y6.out (.cells #[.string ⟨#[49]⟩, .string (tenT j)] 23)); have Zy := Lib.hid (Blk.alloc Z6.out (.cells #[.string ⟨#[49]⟩, .string (tenT j)] 23)); have Sy := Lib.hid (Blk.new w6 #[.string ⟨#[49]⟩, .string (tenT j)] 23); generalize w6.alloc (.cells #[.string ⟨#[49]⟩, .string (tenT j)] 23) = wy at *; generalize w6.heap.size = bs at *)
          all_goals
            try clear c1 c2 c5
            try clear g1 g2 g5 h1 h2 h5
            try clear n1 n2 n3 n4 n5
            try clear m1 m2
            obtain ⟨xy1, xy2, _, _, _⟩ := blk2 Xy.out
            obtain ⟨sy1, sy2, _, _, _⟩ := blk2 Sy.out
            go_wp2_with fail
            refine (CA.out _ (by first | exact Hg.out.below Ly.out | exact Hg.out.below Ly.out.drew | exact Hg.out.below (Ly.out.alloc Ly.out.size _) | exact Hg.out.below (Ly.out.alloc Ly.out.size _).drew)).mono ?_
            rintro e w7 ⟨rfl, hb7⟩
            have s7_ := Lib.hid (step (p := wy) (by first | exact Below.refl _ _ | exact (Below.refl _ _).drew | exact (Below.refl _ _).alloc (Nat.le_refl _) _ | exact ((Below.refl _ _).alloc (Nat.le_refl _) _).drew | exact (Below.refl _ _).drew.alloc (Nat.le_refl _) _) hb7)
            have L7 := Lib.hid (Ly.out.trans (s7_.out.mono Ly.out.size))
            have X7 := Lib.hid (Xy.out.below s7_.out Xy.out.lt)
            have Y7 := Lib.hid (Yy.out.below s7_.out Yy.out.lt)
            have Z7 := Lib.hid (Zy.out.below s7_.out Zy.out.lt)
            have S7 := Lib.hid (Sy.out.below s7_.out Sy.out.lt)
            clear hb7 xy1 xy2 sy1 sy2
            obtain ⟨x71, x72, _, _, x75⟩ := blk2 X7.out
            obtain ⟨y71, y72, _, _, y75⟩ := blk2 Y7.out
            obtain ⟨z71, z72, _, _, z75⟩ := blk2 Z7.out
            obtain ⟨p71, p72, _, _, p75⟩ := blk2 S7.out
          all_goals
            by_cases hf : k + j < 200
          all_goals
            first
              | (obtain ⟨rfl, rfl⟩ := FT.out.1 hf; have hf1 : decide ((k : Int) + (j : Int) + 1 ≤ 200) = true := by (simp <;> omega))
              | (obtain ⟨⟨rfl, rfl, rfl⟩, rfl⟩ := FT.out.2 hf; have hf1 : decide ((k : Int) + (j : Int) + 1 ≤ 200) = false := by (simp <;> omega))
          all_goals
            clear FT CM CD CA
            have hcs : (k < j ∧ cv = -1 ∧ av = 1) ∨ (k = j ∧ cv = 0 ∧ k = 0 ∧ av = 0) ∨ (k = j ∧ cv = 0 ∧ k ≠ 0 ∧ av = 1) ∨ (j < k ∧ cv = 1 ∧ av = 1) := by
              have e1 := FC.out
              have e2 := FA.out
              unfold cmpI at e1
              split at e2 <;> split at e1 <;> (try split at e1) <;> omega
            clear FC FA
            rcases hcs with ⟨h, rfl, rfl⟩ | ⟨h, rfl, h3, rfl⟩ | ⟨h, rfl, h3, rfl⟩ | ⟨h, rfl, rfl⟩
            · have q1 : decide ((k : Int) < (j : Int)) = true := by (simp <;> omega)
              have q4 : ((j : Int) == 0) = false := by (simp <;> omega)
              by_cases k0 : k = 0
              · have q3 : ((k : Int) == 0) = true := by (simp <;> omega)
                clear hf k0
                go_wp2_with fail
                refine (CC.out _ (by first | exact Hg.out.below L7.out | exact Hg.out.below L7.out.drew | exact Hg.out.below (L7.out.alloc L7.out.size _) | exact Hg.out.below (L7.out.alloc L7.out.size _).drew)).mono ?_
                rintro e w8 ⟨rfl, hb8⟩
                have s8_ := Lib.hid (step (p := w7) (by first | exact Below.refl _ _ | exact (Below.refl _ _).drew | exact (Below.refl _ _).alloc (Nat.le_refl _) _ | exact ((Below.refl _ _).alloc (Nat.le_refl _) _).drew | exact (Below.refl _ _).drew.alloc (Nat.le_refl _) _) hb8)
                have L8 := Lib.hid (L7.out.trans (s8_.out.mono L7.out.size))
                have X8 := Lib.hid (X7.out.below s8_.out X7.out.lt)
                have S8 := Lib.hid (S7.out.below s8_.out S7.out.lt)
                clear hb8 x71 x72 x75 y71 y72 y75 z71 z72 z75 p71 p72 p75
                obtain ⟨x81, x82, _, _, x85⟩ := blk2 X8.out
                obtain ⟨p81, p82, _, _, p85⟩ := blk2 S8.out
                go_wp2_with fail
                refine (CE.out _ (by first | exact Hg.out.below L8.out | exact Hg.out.below L8.out.drew | exact Hg.out.below (L8.out.alloc L8.out.size _) | exact Hg.out.below (L8.out.alloc L8.out.size _).drew)).mono ?_
                rintro e w9 ⟨rfl, hb9⟩
                have s9_ := Lib.hid (step (p := w8) (by first | exact Below.refl _ _ | exact (Below.refl _ _).drew | exact (Below.refl _ _).alloc (Nat.le_refl _) _ | exact ((Below.refl _ _).alloc (Nat.le_refl _) _).drew | exact (Below.refl _ _).drew.alloc (Nat.le_refl _) _) hb9)
                have L9 := Lib.hid (L8.out.trans (s9_.out.mono L8.out.size))
                clear hb9 x81 x82 x85 p81 p82 p85
                go_wp2
                exact bodyPost_ret (v := .bool true) (by simp [results, Tryz.results5, go_sem]) rfl ⟨rfl, (by first | exact L9.out | exact L9.out.drew)⟩
              · have q3 : ((k : Int) == 0) = false := by (simp <;> omega)
                clear hf k0
                go_wp2_with fail
                refine (CC.out _ (by first | exact Hg.out.below L7.out | exact Hg.out.below L7.out.drew | exact Hg.out.below (L7.out.alloc L7.out.size _) | exact Hg.out.below (L7.out.alloc L7.out.size _).drew)).mono ?_
                rintro e w8 ⟨rfl, hb8⟩
                have s8_ := Lib.hid (step (p := w7) (by first | exact Below.refl _ _ | exact (Below.refl _ _).drew | exact (Below.refl _ _).alloc (Nat.le_refl _) _ | exact ((Below.refl _ _).alloc (Nat.le_refl _) _).drew | exact (Below.refl _ _).drew.alloc (Nat.le_refl _) _) hb8)
                have L8 := Lib.hid (L7.out.trans (s8_.out.mono L7.out.size))
                have X8 := Lib.hid (X7.out.below s8_.out X7.out.lt)
                have S8 := Lib.hid (S7.out.below s8_.out S7.out.lt)
                clear hb8 x71 x72 x75 y71 y72 y75 z71 z72 z75 p71 p72 p75
                obtain ⟨x81, x82, _, _, x85⟩ := blk2 X8.out
                obtain ⟨p81, p82, _, _, p85⟩ := blk2 S8.out
                go_wp2_with fail
                refine (CE.out _ (by first | exact Hg.out.below L8.out | exact Hg.out.below L8.out.drew | exact Hg.out.below (L8.out.alloc L8.out.size _) | exact Hg.out.below (L8.out.alloc L8.out.size _).drew)).mono ?_
                rintro e w9 ⟨rfl, hb9⟩
                have s9_ := Lib.hid (step (p := w8) (by first | exact Below.refl _ _ | exact (Below.refl _ _).drew | exact (Below.refl _ _).alloc (Nat.le_refl _) _ | exact ((Below.refl _ _).alloc (Nat.le_refl _) _).drew | exact (Below.refl _ _).drew.alloc (Nat.le_refl _) _) hb9)
                have L9 := Lib.hid (L8.out.trans (s9_.out.mono L8.out.size))
                clear hb9 x81 x82 x85 p81 p82 p85
                go_wp2
                exact bodyPost_ret (v := .bool true) (by simp [results, Tryz.results5, go_sem]) rfl ⟨rfl, (by first | exact L9.out | exact L9.out.drew)⟩
            · have q1 : decide ((k : Int) < (j : Int)) = false := by (simp <;> omega)
              have q2 : decide ((j : Int) < (k : Int)) = false := by (simp <;> omega)
              have q3 : ((k : Int) == 0) = true := by (simp <;> omega)
              have q4 : ((j : Int) == 0) = true := by (simp <;> omega)
              have g1 : ¬ k < j := by omega
              have g2 : ¬ j < k := by omega
              clear hf h h3
              go_wp2_with fail
              refine (CC.out _ (by first | exact Hg.out.below L7.out | exact Hg.out.below L7.out.drew | exact Hg.out.below (L7.out.alloc L7.out.size _) | exact Hg.out.below (L7.out.alloc L7.out.size _).drew)).mono ?_
              rintro e w8 ⟨rfl, hb8⟩
              have s8_ := Lib.hid (step (p := w7) (by first | exact Below.refl _ _ | exact (Below.refl _ _).drew | exact (Below.refl _ _).alloc (Nat.le_refl _) _ | exact ((Below.refl _ _).alloc (Nat.le_refl _) _).drew | exact (Below.refl _ _).drew.alloc (Nat.le_refl _) _) hb8)
              have L8 := Lib.hid (L7.out.trans (s8_.out.mono L7.out.size))
              have X8 := Lib.hid (X7.out.below s8_.out X7.out.lt)
              have S8 := Lib.hid (S7.out.below s8_.out S7.out.lt)
              clear hb8 x71 x72 x75 y71 y72 y75 z71 z72 z75 p71 p72 p75
              obtain ⟨x81, x82, _, _, x85⟩ := blk2 X8.out
              obtain ⟨p81, p82, _, _, p85⟩ := blk2 S8.out
              go_wp2_with fail
              refine (CE.out _ (by first | exact Hg.out.below L8.out | exact Hg.out.below L8.out.drew | exact Hg.out.below (L8.out.alloc L8.out.size _) | exact Hg.out.below (L8.out.alloc L8.out.size _).drew)).mono ?_
              rintro e w9 ⟨rfl, hb9⟩
              have s9_ := Lib.hid (step (p := w8) (by first | exact Below.refl _ _ | exact (Below.refl _ _).drew | exact (Below.refl _ _).alloc (Nat.le_refl _) _ | exact ((Below.refl _ _).alloc (Nat.le_refl _) _).drew | exact (Below.refl _ _).drew.alloc (Nat.le_refl _) _) hb9)
              have L9 := Lib.hid (L8.out.trans (s9_.out.mono L8.out.size))
              clear hb9 x81 x82 x85 p81 p82 p85
              go_wp2
              exact bodyPost_ret (v := .bool true) (by simp [results, Tryz.results5, go_sem]) rfl ⟨rfl, (by first | exact L9.out | exact L9.out.drew)⟩
            · have q1 : decide ((k : Int) < (j : Int)) = false := by (simp <;> omega)
              have q2 : decide ((j : Int) < (k : Int)) = false := by (simp <;> omega)
              have q3 : ((k : Int) == 0) = false := by (simp <;> omega)
              have g1 : ¬ k < j := by omega
              have g2 : ¬ j < k := by omega
              clear hf h h3
              go_wp2_with fail
              refine (CC.out _ (by first | exact Hg.out.below L7.out | exact Hg.out.below L7.out.drew | exact Hg.out.below (L7.out.alloc L7.out.size _) | exact Hg.out.below (L7.out.alloc L7.out.size _).drew)).mono ?_
              rintro e w8 ⟨rfl, hb8⟩
              have s8_ := Lib.hid (step (p := w7) (by first | exact Below.refl _ _ | exact (Below.refl _ _).drew | exact (Below.refl _ _).alloc (Nat.le_refl _) _ | exact ((Below.refl _ _).alloc (Nat.le_refl _) _).drew | exact (Below.refl _ _).drew.alloc (Nat.le_refl _) _) hb8)
              have L8 := Lib.hid (L7.out.trans (s8_.out.mono L7.out.size))
              have X8 := Lib.hid (X7.out.below s8_.out X7.out.lt)
              have S8 := Lib.hid (S7.out.below s8_.out S7.out.lt)
              clear hb8 x71 x72 x75 y71 y72 y75 z71 z72 z75 p71 p72 p75
              obtain ⟨x81, x82, _, _, x85⟩ := blk2 X8.out
              obtain ⟨p81, p82, _, _, p85⟩ := blk2 S8.out
              go_wp2_with fail
              refine (CE.out _ (by first | exact Hg.out.below L8.out | exact Hg.out.below L8.out.drew | exact Hg.out.below (L8.out.alloc L8.out.size _) | exact Hg.out.below (L8.out.alloc L8.out.size _).drew)).mono ?_
              rintro e w9 ⟨rfl, hb9⟩
              have s9_ := Lib.hid (step (p := w8) (by first | exact Below.refl _ _ | exact (Below.refl _ _).drew | exact (Below.refl _ _).alloc (Nat.le_refl _) _ | exact ((Below.refl _ _).alloc (Nat.le_refl _) _).drew | exact (Below.refl _ _).drew.alloc (Nat.le_refl _) _) hb9)
              have L9 := Lib.hid (L8.out.trans (s9_.out.mono L8.out.size))
              clear hb9 x81 x82 x85 p81 p82 p85
              go_wp2
              exact bodyPost_ret (v := .bool true) (by simp [results, Tryz.results5, go_sem]) rfl ⟨rfl, (by first | exact L9.out | exact L9.out.drew)⟩
            · have q1 : decide ((k : Int) < (j : Int)) = false := by (simp <;> omega)
              have q2 : decide ((j : Int) < (k : Int)) = true := by (simp <;> omega)
              have q3 : ((k : Int) == 0) = false := by (simp <;> omega)
              have g1 : ¬ k < j := by omega
              clear hf
              go_wp2_with fail
              refine (CC.out _ (by first | exact Hg.out.below L7.out | exact Hg.out.below L7.out.drew | exact Hg.out.below (L7.out.alloc L7.out.size _) | exact Hg.out.below (L7.out.alloc L7.out.size _).drew)).mono ?_
              rintro e w8 ⟨rfl, hb8⟩
              have s8_ := Lib.hid (step (p := w7) (by first | exact Below.refl _ _ | exact (Below.refl _ _).drew | exact (Below.refl _ _).alloc (Nat.le_refl _) _ | exact ((Below.refl _ _).alloc (Nat.le_refl _) _).drew | exact (Below.refl _ _).drew.alloc (Nat.le_refl _) _) hb8)
              have L8 := Lib.hid (L7.out.trans (s8_.out.mono L7.out.size))
              have X8 := Lib.hid (X7.out.below s8_.out X7.out.lt)
              have S8 := Lib.hid (S7.out.below s8_.out S7.out.lt)
              clear hb8 x71 x72 x75 y71 y72 y75 z71 z72 z75 p71 p72 p75
              obtain ⟨x81, x82, _, _, x85⟩ := blk2 X8.out
              obtain ⟨p81, p82, _, _, p85⟩ := blk2 S8.out
              go_wp2_with fail
              refine (CE.out _ (by first | exact Hg.out.below L8.out | exact Hg.out.below L8.out.drew | exact Hg.out.below (L8.out.alloc L8.out.size _) | exact Hg.out.below (L8.out.alloc L8.out.size _).drew)).mono ?_
              rintro e w9 ⟨rfl, hb9⟩
              have s9_ := Lib.hid (step (p := w8) (by first | exact Below.refl _ _ | exact (Below.refl _ _).drew | exact (Below.refl _ _).alloc (Nat.le_refl _) _ | exact ((Below.refl _ _).alloc (Nat.le_refl _) _).drew | exact (Below.refl _ _).drew.alloc (Nat.le_refl _) _) hb9)
              have L9 := Lib.hid (L8.out.trans (s9_.out.mono L8.out.size))
              clear hb9 x81 x82 x85 p81 p82 p85
              go_wp2
              exact bodyPost_ret (v := .bool true) (by simp [results, Tryz.results5, go_sem]) rfl ⟨rfl, (by first | exact L9.out | exact L9.out.drew)⟩
end Go.Proofs.YtgeoidnleagloaaGreatDoor
