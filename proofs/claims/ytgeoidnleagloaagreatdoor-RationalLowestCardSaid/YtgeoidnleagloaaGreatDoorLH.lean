/- The law RationalLowest: the walk. -/
import Derived.Test.YtgeoidnleagloaaGreatDoorLB
import Derived.Test.YtgeoidnleagloaaGreatDoorLG
import Derived.Test.YtgeoidnleagloaaGreatDoorRN
set_option linter.unusedVariables false
set_option linter.unusedSimpArgs false
namespace Go.Proofs.YtgeoidnleagloaaGreatDoor
open Go.RowKit Yk

set_option maxRecDepth 100000 in
set_option maxHeartbeats 4000000 in
theorem lowest_any (x0 x1 x2 x3 fac : Int) (sign : Bool) (a0 : -9223372036854775808 ≤ x0) (a1 : x0 ≤ 9223372036854775807) (b0 : -9223372036854775808 ≤ x1) (b1 : x1 ≤ 9223372036854775807)
    (c0 : -9223372036854775808 ≤ x2) (c1 : x2 ≤ 9223372036854775807) (d0 : -9223372036854775808 ≤ x3) (d1 : x3 ≤ 9223372036854775807) (f0 : -9223372036854775808 ≤ fac) (f1 : fac ≤ 9223372036854775807) (w : World) (hg : Glob w) :
    Calls Tryz.prog 4 #[.agg #[.int .i64 x0, .int .i64 x1, .int .i64 x2, .int .i64 x3], .int .i64 fac, .bool sign] w fun e w' => e = .returned (.bool true) ∧ Below w.heap.size w w' := by
  have Hg := Lib.hid hg
  have hmx : Tryz.prog.follows .mixedOrders = true := by kernel_rfl
  have CL := Lib.hid (fun W => long_any x0 x1 x2 x3 a0 a1 b0 b1 c0 c1 d0 d1 W)
  have CK := Lib.hid (fun W => pick_any fac 1000000 f0 f1 (by decide) (by decide) W)
  have q0 : Blk (w.alloc (.cells #[.int .i64 x0, .int .i64 x1, .int .i64 x2, .int .i64 x3] 24)) w.heap.size #[.int .i64 x0, .int .i64 x1, .int .i64 x2, .int .i64 x3] 24 := Blk.new w _ _
  have q1 : Below w.heap.size w (w.alloc (.cells #[.int .i64 x0, .int .i64 x1, .int .i64 x2, .int .i64 x3] 24)) := (Below.refl _ w).alloc (Nat.le_refl _) _
  have X0 := Lib.hid q0
  have L0 := Lib.hid q1
  clear q0 q1 hg a0 a1 b0 b1 c0 c1 d0 d1 f0 f1
  go_enter Tryz.func4, Tryz.ntmps4
  go_wp2_with fail
  generalize (w.alloc (.cells #[.int .i64 x0, .int .i64 x1, .int .i64 x2, .int .i64 x3] 24)) = w0 at *
  refine (sane_any _ (Hg.out.below L0.out)).mono ?_
  rintro e w1 ⟨rfl, hb1⟩
  have L1 := Lib.hid (L0.out.trans (hb1.mono L0.out.size))
  have X1 := X0.out.below hb1 X0.out.lt
  have e0 := X1.cell (i := 0) (v := .int .i64 x0) rfl
  have e1 := X1.cell (i := 1) (v := .int .i64 x1) rfl
  have e2 := X1.cell (i := 2) (v := .int .i64 x2) rfl
  have e3 := X1.cell (i := 3) (v := .int .i64 x3) rfl
  clear X0 X1 hb1
  go_wp2_with fail
  refine (CL.out _).mono ?_
  rintro e w2 ⟨q, rfl, hq, hb2⟩
  clear e0 e1 e2 e3
  have L2 := Lib.hid (L1.out.trans (hb2.mono L1.out.size))
  clear hb2
  have hfew := hq.rT (by decide)
  generalize rT q = r at *
  obtain ⟨r1, r2⟩ := r
  have HF := Lib.hid hfew
  have CM1 : Hid (∀ K : Int, K ≠ 0 → K.natAbs ≤ 1000000 → ∀ W, Calls Tryz.prog 21 #[.string r1, .string (ofI K)] W fun e w' => e = .returned (.tuple #[.string (ofI (nS r1 * K)), .int .i64 0]) ∧ Below W.heap.size W w') := Lib.hid fun K k0 k1 W => by
    have h := mk_scale hfew k0 k1
    have := refMul_any r1 (ofI K) W (few_sz hfew).1 (size_ofI (by omega) (by omega))
    rw [mul_fits (rV_parts hfew.1).1 k1 h.1] at this
    exact this
  have CM2 : Hid (∀ K : Int, K ≠ 0 → K.natAbs ≤ 1000000 → ∀ W, Calls Tryz.prog 21 #[.string r2, .string (ofI K)] W fun e w' => e = .returned (.tuple #[.string (ofI (nS r2 * K)), .int .i64 0]) ∧ Below W.heap.size W w') := Lib.hid fun K k0 k1 W => by
    have h := mk_scale hfew k0 k1
    have := refMul_any r2 (ofI K) W (few_sz hfew).2 (size_ofI (by omega) (by omega))
    rw [mul_fits (rV_parts hfew.1).2.1 k1 h.2.1] at this
    exact this
  have CA : Hid (∀ K : Int, K ≠ 0 → K.natAbs ≤ 1000000 → ∀ W, Glob W → Calls Tryz.prog 22 #[.string (ofI (nS r1 * K)), .string (ofI (nS r2 * K))] W fun e w' => e = .returned (.tuple #[.agg #[.string r1, .string r2], .int .i64 0]) ∧ Below W.heap.size W w') := Lib.hid fun K k0 k1 W hg => by
    have h := mk_scale hfew k0 k1
    have := ratMake_any (ofI (nS r1 * K)) (ofI (nS r2 * K)) W hg (size_vS (vS_ofI (small_iff.1 h.1))) (size_vS (vS_ofI (small_iff.1 h.2.1)))
    rw [h.2.2] at this
    exact this
  have CB : Hid (∀ W, Glob W → Calls Tryz.prog 22 #[.string r1, .string r2] W fun e w' => e = .returned (.tuple #[.agg #[.string r1, .string r2], .int .i64 0]) ∧ Below W.heap.size W w') := Lib.hid fun W hg => by
    have := ratMake_any r1 r2 W hg (few_sz hfew).1 (few_sz hfew).2
    rw [mk_same hfew.1] at this
    exact this
  have CZ : Hid (∀ K : Int, K ≠ 0 → K.natAbs ≤ 1000000 → ∀ W, Glob W → Calls Tryz.prog 22 #[.string ⟨#[48]⟩, .string (ofI K)] W fun e w' => e = .returned (.tuple #[.agg #[.string ⟨#[48]⟩, .string ⟨#[49]⟩], .int .i64 0]) ∧ Below W.heap.size W w') := Lib.hid fun K k0 k1 W hg => by
    have := ratMake_any ⟨#[48]⟩ (ofI K) W hg (by decide) (size_ofI (by omega) (by omega))
    rw [mk_zero k0 k1] at this
    exact this
  have CV : Hid (∀ W, Glob W → Calls Tryz.prog 17 #[.agg #[.string r1, .string r2]] W fun e w' => e = .returned (.bool true) ∧ Below W.heap.size W w') := Lib.hid fun W hg => by
    have := ratValid_any (r1, r2) W hg (few_sz hfew).1 (few_sz hfew).2
    rw [hfew.1] at this
    exact this
  have CC : Hid (∀ W, Glob W → Calls Tryz.prog 23 #[.agg #[.string r1, .string r2], .agg #[.string r1, .string r2]] W fun e w' => e = .returned (.int .i64 0) ∧ Below W.heap.size W w') := Lib.hid fun W hg => by
    have := ratCompare_any (r1, r2) (r1, r2) W hg (few_sz hfew) (few_sz hfew)
    rw [cmp_self hfew.1] at this
    exact this
  obtain ⟨pr, hpr⟩ : ∃ pr, rPrint (r1, r2) = pr := ⟨_, rfl⟩
  have CP : Hid (∀ W, Glob W → Calls Tryz.prog 14 #[.agg #[.string r1, .string r2]] W fun e w' => e = .returned (.string pr) ∧ Below W.heap.size W w') := Lib.hid fun W hg => by
    have := ratPrint_any (r1, r2) W hg (few_sz hfew)
    rw [hpr] at this
    exact this
  clear hpr hfew hq
  go_wp2_with fail
  refine (CK.out _).mono ?_
  rintro e _ ⟨k, rfl, hk0, hk1, rfl⟩
  cases sign
  all_goals
    go_wp2_with fail
    refine (refFromInt_any _ _ (by omega) (by omega)).mono ?_
    rintro e w3 ⟨rfl, hb3⟩
    have s3 := Lib.hid (step (p := w2) (by first | exact Below.refl _ _ | exact (Below.refl _ _).drew | exact (Below.refl _ _).alloc (Nat.le_refl _) _ | exact ((Below.refl _ _).alloc (Nat.le_refl _) _).drew | exact (Below.refl _ _).drew.alloc (Nat.le_refl _) _) hb3)
    have L3 := Lib.hid (L2.out.trans (s3.out.mono L2.out.size))
    have R3 := Lib.hid (Blk.below (Blk.new w2 #[.string r1, .string r2] 23) hb3 (by simp))
    clear hb3
    obtain ⟨u1, u2, _, _, u5⟩ := blk2 R3.out
    go_wp2_with fail
    refine (CM1.out _ (by omega) (by omega) _).mono ?_
    rintro e w4 ⟨rfl, hb4⟩
    have s4 := Lib.hid (step (p := w3) (by first | exact Below.refl _ _ | exact (Below.refl _ _).drew | exact (Below.refl _ _).alloc (Nat.le_refl _) _ | exact ((Below.refl _ _).alloc (Nat.le_refl _) _).drew | exact (Below.refl _ _).drew.alloc (Nat.le_refl _) _) hb4)
    have L4 := Lib.hid (L3.out.trans (s4.out.mono L3.out.size))
    have R4 := Lib.hid (R3.out.below s4.out R3.out.lt)
    clear hb4 u1 u2 u5
    obtain ⟨u1, u2, _, _, u5⟩ := blk2 R4.out
    go_wp2_with fail
    refine (CM2.out _ (by omega) (by omega) _).mono ?_
    rintro e w5 ⟨rfl, hb5⟩
    have s5 := Lib.hid (step (p := w4) (by first | exact Below.refl _ _ | exact (Below.refl _ _).drew | exact (Below.refl _ _).alloc (Nat.le_refl _) _ | exact ((Below.refl _ _).alloc (Nat.le_refl _) _).drew | exact (Below.refl _ _).drew.alloc (Nat.le_refl _) _) hb5)
    have L5 := Lib.hid (L4.out.trans (s5.out.mono L4.out.size))
    have R5 := Lib.hid (R4.out.below s5.out R4.out.lt)
    clear hb5 u1 u2 u5
    go_wp2_with fail
    refine (CA.out _ (by omega) (by omega) _ (by first | exact Hg.out.below L5.out | exact Hg.out.below L5.out.drew | exact Hg.out.below (L5.out.alloc L5.out.size _) | exact Hg.out.below (L5.out.alloc L5.out.size _).drew)).mono ?_
    rintro e w6 ⟨rfl, hb6⟩
    have s6 := Lib.hid (step (p := w5) (by first | exact Below.refl _ _ | exact (Below.refl _ _).drew | exact (Below.refl _ _).alloc (Nat.le_refl _) _ | exact ((Below.refl _ _).alloc (Nat.le_refl _) _).drew | exact (Below.refl _ _).drew.alloc (Nat.le_refl _) _) hb6)
    have L6 := Lib.hid (L5.out.trans (s6.out.mono L5.out.size))
    have R6 := Lib.hid (R5.out.below s6.out R5.out.lt)
    clear hb6
    obtain ⟨u1, u2, _, _, u5⟩ := blk2 R6.out
    go_wp2_with fail
    refine (CB.out _ (by first | exact Hg.out.below L6.out | exact Hg.out.below L6.out.drew | exact Hg.out.below (L6.out.alloc L6.out.size _) | exact Hg.out.below (L6.out.alloc L6.out.size _).drew)).mono ?_
    rintro e w7 ⟨rfl, hb7⟩
    have s7 := Lib.hid (step (p := w6) (by first | exact Below.refl _ _ | exact (Below.refl _ _).drew | exact (Below.refl _ _).alloc (Nat.le_refl _) _ | exact ((Below.refl _ _).alloc (Nat.le_refl _) _).drew | exact (Below.refl _ _).drew.alloc (Nat.le_refl _) _) hb7)
    have L7 := Lib.hid (L6.out.trans (s7.out.mono L6.out.size))
    have R7 := Lib.hid (R6.out.below s7.out R6.out.lt)
    have A7 := Lib.hid (Blk.below (Blk.new w6 #[.string r1, .string r2] 23) hb7 (by simp))
    clear hb7 u1 u2 u5
    go_wp2_with fail
    refine (CZ.out _ (by omega) (by omega) _ (by first | exact Hg.out.below L7.out | exact Hg.out.below L7.out.drew | exact Hg.out.below (L7.out.alloc L7.out.size _) | exact Hg.out.below (L7.out.alloc L7.out.size _).drew)).mono ?_
    rintro e w8 ⟨rfl, hb8⟩
    have s8 := Lib.hid (step (p := w7) (by first | exact Below.refl _ _ | exact (Below.refl _ _).drew | exact (Below.refl _ _).alloc (Nat.le_refl _) _ | exact ((Below.refl _ _).alloc (Nat.le_refl _) _).drew | exact (Below.refl _ _).drew.alloc (Nat.le_refl _) _) hb8)
    have L8 := Lib.hid (L7.out.trans (s8.out.mono L7.out.size))
    have R8 := Lib.hid (R7.out.below s8.out R7.out.lt)
    have A8 := Lib.hid (A7.out.below s8.out A7.out.lt)
    have B8 := Lib.hid (Blk.below (Blk.new w7 #[.string r1, .string r2] 23) hb8 (by simp))
    clear hb8
    go_wp2
    have sv := Lib.hid (show Below w8.heap.size w8 (w8.alloc (.cells #[.string ⟨#[48]⟩, .string ⟨#[49]⟩] 23)) from (Below.refl _ _).alloc (Nat.le_refl _) _)
    have Zv := Lib.hid (Blk.new w8 #[.string ⟨#[48]⟩, .string ⟨#[49]⟩] 23)
    have Rv := Lib.hid (R8.out.below sv.out R8.out.lt)
    have Av := Lib.hid (A8.out.below sv.out A8.out.lt)
    have Bv := Lib.hid (B8.out.below sv.out B8.out.lt)
    have Lv := Lib.hid (L8.out.trans (sv.out.mono L8.out.size))
    generalize w8.alloc (.cells #[.string ⟨#[48]⟩, .string ⟨#[49]⟩] 23) = wv at *
    clear s3 s4 s5 s6 s7 s8 sv R3 R4 R5 R6 R7 R8 A7 A8 B8 L3 L4 L5 L6 L7 L8 CM1 CM2 CA CB CZ
    obtain ⟨rv0, rv1, _, _, _⟩ := blk2 Rv.out
    obtain ⟨av0, av1, _, _, _⟩ := blk2 Av.out
    obtain ⟨bv0, bv1, _, _, _⟩ := blk2 Bv.out
    obtain ⟨zv0, zv1, _, _, _⟩ := blk2 Zv.out
    have T0 : Hid True := Lib.hid trivial
    have T1 : Hid True := Lib.hid trivial
    have T2 : Hid True := Lib.hid trivial
    have T3 : Hid True := Lib.hid trivial
    have T4 : Hid True := Lib.hid trivial
    go_region_held3 (fun w' => (w'.cell? ⟨w2.heap.size, 0, none⟩ = some (.string r1) ∧ w'.cell? ⟨w2.heap.size, 1, none⟩ = some (.string r2)) ∧ ((w'.cell? ⟨w6.heap.size, 0, none⟩ = some (.string r1) ∧ w'.cell? ⟨w6.heap.size, 1, none⟩ = some (.string r2)) ∧ ((w'.cell? ⟨w7.heap.size, 0, none⟩ = some (.string r1) ∧ w'.cell? ⟨w7.heap.size, 1, none⟩ = some (.string r2)) ∧ ((w'.cell? ⟨w8.heap.size, 0, none⟩ = some (.string ⟨#[48]⟩) ∧ w'.cell? ⟨w8.heap.size, 1, none⟩ = some (.string ⟨#[49]⟩)))))) (go_keep)
      ((first
        | (have _tk := T0.out; go_at_call 17; refine (CV.out _ (by first | exact Hg.out.below Lv.out | exact Hg.out.below Lv.out.drew)).mono ?_; rintro e wt0 ⟨rfl, hbt0⟩
           clear _tk T0
           have st0 := Lib.hid (step (p := wv) (by first | exact Below.refl _ _ | exact (Below.refl _ _).drew | exact (Below.refl _ _).alloc (Nat.le_refl _) _ | exact ((Below.refl _ _).alloc (Nat.le_refl _) _).drew | exact (Below.refl _ _).drew.alloc (Nat.le_refl _) _) hbt0)
           have Lt0 := Lib.hid (Lv.out.trans (st0.out.mono Lv.out.size))
           have Rt0 := Lib.hid (Rv.out.below st0.out Rv.out.lt)
           obtain ⟨rt00, rt01, _, _, _⟩ := blk2 Rt0.out
           have At0 := Lib.hid (Av.out.below st0.out Av.out.lt)
           obtain ⟨at00, at01, _, _, _⟩ := blk2 At0.out
           have Bt0 := Lib.hid (Bv.out.below st0.out Bv.out.lt)
           obtain ⟨bt00, bt01, _, _, _⟩ := blk2 Bt0.out
           have Zt0 := Lib.hid (Zv.out.below st0.out Zv.out.lt)
           obtain ⟨zt00, zt01, _, _, _⟩ := blk2 Zt0.out
           clear hbt0)
        | (have _tk := T1.out; go_at_call 23; refine (CC.out _ (by first | exact Hg.out.below Lt0.out | exact Hg.out.below Lt0.out.drew)).mono ?_; rintro e wt1 ⟨rfl, hbt1⟩
           clear _tk T1
           have st1 := Lib.hid (step (p := wt0) (by first | exact Below.refl _ _ | exact (Below.refl _ _).drew | exact (Below.refl _ _).alloc (Nat.le_refl _) _ | exact ((Below.refl _ _).alloc (Nat.le_refl _) _).drew | exact (Below.refl _ _).drew.alloc (Nat.le_refl _) _) hbt1)
           have Lt1 := Lib.hid (Lt0.out.trans (st1.out.mono Lt0.out.size))
           have Rt1 := Lib.hid (Rt0.out.below st1.out Rt0.out.lt)
           obtain ⟨rt10, rt11, _, _, _⟩ := blk2 Rt1.out
           have At1 := Lib.hid (At0.out.below st1.out At0.out.lt)
           obtain ⟨at10, at11, _, _, _⟩ := blk2 At1.out
           have Bt1 := Lib.hid (Bt0.out.below st1.out Bt0.out.lt)
           obtain ⟨bt10, bt11, _, _, _⟩ := blk2 Bt1.out
           have Zt1 := Lib.hid (Zt0.out.below st1.out Zt0.out.lt)
           obtain ⟨zt10, zt11, _, _, _⟩ := blk2 Zt1.out
           clear hbt1)
        | (have _tk := T2.out; go_at_call 24; refine (is_any _ _ _).mono ?_; rintro e wt2 ⟨rfl, hbt2⟩
           clear _tk T2
           have st2 := Lib.hid (step (p := wt1) (by first | exact Below.refl _ _ | exact (Below.refl _ _).drew | exact (Below.refl _ _).alloc (Nat.le_refl _) _ | exact ((Below.refl _ _).alloc (Nat.le_refl _) _).drew | exact (Below.refl _ _).drew.alloc (Nat.le_refl _) _) hbt2)
           have Lt2 := Lib.hid (Lt1.out.trans (st2.out.mono Lt1.out.size))
           have Rt2 := Lib.hid (Rt1.out.below st2.out Rt1.out.lt)
           obtain ⟨rt20, rt21, _, _, _⟩ := blk2 Rt2.out
           have At2 := Lib.hid (At1.out.below st2.out At1.out.lt)
           obtain ⟨at20, at21, _, _, _⟩ := blk2 At2.out
           have Bt2 := Lib.hid (Bt1.out.below st2.out Bt1.out.lt)
           obtain ⟨bt20, bt21, _, _, _⟩ := blk2 Bt2.out
           have Zt2 := Lib.hid (Zt1.out.below st2.out Zt1.out.lt)
           obtain ⟨zt20, zt21, _, _, _⟩ := blk2 Zt2.out
           clear hbt2)
        | (have _tk := T3.out; go_at_call 14; refine (CP.out _ (by first | exact Hg.out.below Lt2.out | exact Hg.out.below Lt2.out.drew)).mono ?_; rintro e wt3 ⟨rfl, hbt3⟩
           clear _tk T3
           have st3 := Lib.hid (step (p := wt2) (by first | exact Below.refl _ _ | exact (Below.refl _ _).drew | exact (Below.refl _ _).alloc (Nat.le_refl _) _ | exact ((Below.refl _ _).alloc (Nat.le_refl _) _).drew | exact (Below.refl _ _).drew.alloc (Nat.le_refl _) _) hbt3)
           have Lt3 := Lib.hid (Lt2.out.trans (st3.out.mono Lt2.out.size))
           have Rt3 := Lib.hid (Rt2.out.below st3.out Rt2.out.lt)
           obtain ⟨rt30, rt31, _, _, _⟩ := blk2 Rt3.out
           have At3 := Lib.hid (At2.out.below st3.out At2.out.lt)
           obtain ⟨at30, at31, _, _, _⟩ := blk2 At3.out
           have Bt3 := Lib.hid (Bt2.out.below st3.out Bt2.out.lt)
           obtain ⟨bt30, bt31, _, _, _⟩ := blk2 Bt3.out
           have Zt3 := Lib.hid (Zt2.out.below st3.out Zt2.out.lt)
           obtain ⟨zt30, zt31, _, _, _⟩ := blk2 Zt3.out
           clear hbt3)
        | (have _tk := T4.out; go_at_call 14; refine (CP.out _ (by first | exact Hg.out.below Lt3.out | exact Hg.out.below Lt3.out.drew)).mono ?_; rintro e wt4 ⟨rfl, hbt4⟩
           clear _tk T4
           have st4 := Lib.hid (step (p := wt3) (by first | exact Below.refl _ _ | exact (Below.refl _ _).drew | exact (Below.refl _ _).alloc (Nat.le_refl _) _ | exact ((Below.refl _ _).alloc (Nat.le_refl _) _).drew | exact (Below.refl _ _).drew.alloc (Nat.le_refl _) _) hbt4)
           have Lt4 := Lib.hid (Lt3.out.trans (st4.out.mono Lt3.out.size))
           have Rt4 := Lib.hid (Rt3.out.below st4.out Rt3.out.lt)
           obtain ⟨rt40, rt41, _, _, _⟩ := blk2 Rt4.out
           have At4 := Lib.hid (At3.out.below st4.out At3.out.lt)
           obtain ⟨at40, at41, _, _, _⟩ := blk2 At4.out
           have Bt4 := Lib.hid (Bt3.out.below st4.out Bt3.out.lt)
           obtain ⟨bt40, bt41, _, _, _⟩ := blk2 Bt4.out
           have Zt4 := Lib.hid (Zt3.out.below st4.out Zt3.out.lt)
           obtain ⟨zt40, zt41, _, _, _⟩ := blk2 Zt4.out
           clear hbt4)))
  all_goals go_wp2
  all_goals exact bodyPost_ret (v := .bool true) (by simp [results, Tryz.results4, go_sem, *]) rfl ⟨rfl, (by first | exact Lt4.out | exact Lt4.out.drew)⟩
end Go.Proofs.YtgeoidnleagloaaGreatDoor
