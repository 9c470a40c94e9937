/- Walks of the law's own helpers: is, pick, minus. -/
import Derived.Deep.RegionHeld3
import Derived.Test.YtgeoidnleagloaaGreatDoorQF
import Derived.Test.YtgeoidnleagloaaGreatDoorQG
import Derived.Test.YtgeoidnleagloaaGreatDoorQH
import Derived.Test.YtgeoidnleagloaaGreatDoorPL
set_option linter.unusedVariables false
set_option linter.unusedSimpArgs false
namespace Go.Proofs.YtgeoidnleagloaaGreatDoor
open Go.RowKit Yk

set_option maxRecDepth 100000 in
theorem is_any (n d : ByteArray) (w : World) : Calls Tryz.prog 24 #[.string n, .string d] w fun e w' => e = .returned (.agg #[.string n, .string d]) ∧ Below w.heap.size w w' := by
  go_enter Tryz.func24, Tryz.ntmps24
  go_wp2
  refine bodyPost_ret (v := .agg #[.string n, .string d]) (by simp [results, Tryz.results24, go_sem]) rfl ⟨rfl, ?_⟩
  exact (Below.refl _ w).alloc (Nat.le_refl _) _
/-- A number from 0 up to n comes back. -/
def PickL (n : Int) (w : World) (e : Ending) (w' : World) : Prop := ∃ k : Int, e = .returned (.int .i64 k) ∧ 0 ≤ k ∧ k < n ∧ w = w'
set_option maxRecDepth 100000 in
theorem pick_any (c n : Int) (hc0 : -9223372036854775808 ≤ c) (hc1 : c ≤ 9223372036854775807) (hn : 0 < n) (hn1 : n ≤ 9223372036854775807) (w : World) :
    Calls Tryz.prog 18 #[.int .i64 c, .int .i64 n] w (PickL n w) := by
  have hne : n ≠ 0 := by omega
  by_cases hc : c < 0
  · have h0 : 0 ≤ -(c + 1) := by omega
    have h1 := Int.tmod_nonneg n h0
    have h2 := Int.tmod_lt_of_pos (-(c + 1)) hn
    rw [Int.neg_tmod] at h1 h2
    go_enter Tryz.func18, Tryz.ntmps18
    go_wp2
    go_ret
    exact ⟨_, rfl, h1, h2, rfl⟩
  · have h0 : 0 ≤ c := by omega
    have h1 := Int.emod_nonneg c hne
    have h2 := Int.emod_lt_of_pos c hn
    go_enter Tryz.func18, Tryz.ntmps18
    go_wp2
    go_ret
    exact ⟨_, rfl, h1, h2, rfl⟩
theorem step {p W w1 : World} (h0 : Below p.heap.size p W) (hb : Below W.heap.size W w1) : Below p.heap.size p w1 := h0.trans (hb.mono h0.size)
set_option maxRecDepth 100000 in
set_option maxHeartbeats 2000000 in
theorem minus_any (a : RS) (w : World) (hg : Glob w) (ha : Sz a) : Calls Tryz.prog 45 #[vR a] w fun e w' => e = .returned (vR (rSub rZero a).1) ∧ Below w.heap.size w w' := by
  obtain ⟨a1, a2⟩ := a
  have S : Hid (∀ w, Glob w → Calls Tryz.prog 44 #[.agg #[.string ⟨#[48]⟩, .string ⟨#[49]⟩], .agg #[.string a1, .string a2]] w (RatPost (rSub rZero (a1, a2)) w)) := Lib.hid fun w hg => by
    have := ratSub_any rZero (a1, a2) w hg ⟨by unfold rZero; rw [ofI_zero]; decide, by unfold rZero; rw [ofI_one]; decide⟩ ha
    unfold rZero at this ⊢
    rw [ofI_zero, ofI_one] at this ⊢
    exact this
  show Calls _ _ #[.agg #[.string a1, .string a2]] _ _
  generalize rSub rZero (a1, a2) = r at *
  obtain ⟨⟨p1, p2⟩, p3⟩ := r
  have q0 : Blk ((w.alloc (.cells #[.string a1, .string a2] 23)).alloc (.cells #[.string ⟨#[]⟩, .string ⟨#[]⟩] 23)) w.heap.size #[.string a1, .string a2] 23 := (Blk.new w _ _).alloc _
  have q1 : Blk ((w.alloc (.cells #[.string a1, .string a2] 23)).alloc (.cells #[.string ⟨#[]⟩, .string ⟨#[]⟩] 23)) (w.heap.size + 1) #[.string ⟨#[]⟩, .string ⟨#[]⟩] 23 := Blk.newAt _ _ _ (by simp)
  have q2 : Below w.heap.size w ((w.alloc (.cells #[.string a1, .string a2] 23)).alloc (.cells #[.string ⟨#[]⟩, .string ⟨#[]⟩] 23)) := ((Below.refl _ w).alloc (Nat.le_refl _) _).alloc (by simp) _
  have A0 := Lib.hid q0
  have R0 := Lib.hid q1
  have L0 := Lib.hid q2
  have Hg := Lib.hid hg
  clear q0 q1 q2 hg ha
  have hmx : Tryz.prog.follows .mixedOrders = true := by kernel_rfl
  go_enter Tryz.func45, Tryz.ntmps45
  go_wp2
  generalize ((w.alloc (.cells #[.string a1, .string a2] 23)).alloc (.cells #[.string ⟨#[]⟩, .string ⟨#[]⟩] 23)) = w0 at *
  obtain ⟨c1, c2, _, _, c5⟩ := blk2 A0.out
  have hlt0 := R0.out.lt
  go_region_held3 (fun w' => (w'.cell? ⟨w.heap.size, 0, none⟩ = some (.string a1)) ∧ (w'.cell? ⟨w.heap.size, 1, none⟩ = some (.string a2))) (go_keep)
    ((first
      | (go_at_call 24; refine (is_any _ _ _).mono ?_; rintro e w1 ⟨rfl, hb1⟩
         have s1 := Lib.hid (step (p := w0) (by first | exact Below.refl _ _ | exact (Below.refl _ _).drew | exact (Below.refl _ _).alloc (Nat.le_refl _) _ | exact ((Below.refl _ _).alloc (Nat.le_refl _) _).drew | exact (Below.refl _ _).drew.alloc (Nat.le_refl _) _) hb1)
         have A1 := Lib.hid (A0.out.below s1.out A0.out.lt)
         have R1 := Lib.hid (R0.out.below s1.out R0.out.lt)
         have L1 := Lib.hid (L0.out.trans (s1.out.mono L0.out.size))
         have hs1 := s1.out.size
         try have N1 := Lib.hid (Blk.below (w := (w0.alloc (.cells #[.string ⟨#[]⟩, .string ⟨#[]⟩] 23)).drew) (Blk.new w0 _ _) hb1 (by simp))
         obtain ⟨d1, d2, _, _, d5⟩ := blk2 A1.out
         clear hb1)
      | (go_at_call 44; refine (S.out _ (by first | exact Hg.out.below L1.out | exact Hg.out.below L1.out.drew | exact Hg.out.below (L1.out.alloc L1.out.size _) | exact Hg.out.below (L1.out.alloc L1.out.size _).drew)).mono ?_; rintro e w2 ⟨rfl, hb2⟩
         have s2 := Lib.hid (step (p := w1) (by first | exact Below.refl _ _ | exact (Below.refl _ _).drew | exact (Below.refl _ _).alloc (Nat.le_refl _) _ | exact ((Below.refl _ _).alloc (Nat.le_refl _) _).drew | exact (Below.refl _ _).drew.alloc (Nat.le_refl _) _) hb2)
         have A2 := Lib.hid (A1.out.below s2.out A1.out.lt)
         have R2 := Lib.hid (R1.out.below s2.out R1.out.lt)
         have L2 := Lib.hid (L1.out.trans (s2.out.mono L1.out.size))
         have hs2 := s2.out.size
         obtain ⟨f1, f2, _, _, f5⟩ := blk2 A2.out
         obtain ⟨r1, r2, r3, r4, r5⟩ := blk2 R2.out
         first
           | (have N2 := Lib.hid (N1.out.below s2.out N1.out.lt); obtain ⟨n1, n2, n3, n4, n5⟩ := blk2 N2.out
              have m1 : ¬ (w0.heap.size = w.heap.size) := by omega
              have m2 : ¬ (w.heap.size = w0.heap.size) := by omega
              have m3 : ¬ (w0.heap.size = w.heap.size + 1) := by omega
              have m4 : ¬ (w.heap.size + 1 = w0.heap.size) := by omega)
           | (have N2 := Lib.hid (Blk.below (w := w1.alloc (.cells #[.string ⟨#[]⟩, .string ⟨#[]⟩] 23)) (Blk.new w1 _ _) hb2 (by simp)); obtain ⟨n1, n2, n3, n4, n5⟩ := blk2 N2.out
              have m1 : ¬ (w1.heap.size = w.heap.size) := by omega
              have m2 : ¬ (w.heap.size = w1.heap.size) := by omega
              have m3 : ¬ (w1.heap.size = w.heap.size + 1) := by omega
              have m4 : ¬ (w.heap.size + 1 = w1.heap.size) := by omega)
           | skip
         clear hb2)))
  all_goals go_wp2
  all_goals
    refine bodyPost_ret (v := vR (p1, p2)) (by simp [results, Tryz.results45, go_sem, *]) rfl ⟨rfl, ?_⟩
    have hl2 := L2.out.size
    first
      | exact ((L2.out.setCell (by simp) _).setCell (by simp) _).alloc (by simp [World.setCell] <;> omega) _
      | exact (((L2.out.setCell (by simp <;> omega) _).setCell (by simp <;> omega) _).setCell (by simp) _).setCell (by simp) _
end Go.Proofs.YtgeoidnleagloaaGreatDoor
