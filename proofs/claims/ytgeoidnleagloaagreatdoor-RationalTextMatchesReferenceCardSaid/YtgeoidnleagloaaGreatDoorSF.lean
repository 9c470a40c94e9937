/- Walks of the reference's makers of fractions: pick, Small. -/
import Derived.Deep.RegionHeld3
import Derived.IntWalk
import Derived.Test.YtgeoidnleagloaaGreatDoorSA
import Derived.Test.YtgeoidnleagloaaGreatDoorRX
set_option linter.unusedVariables false
set_option linter.unusedSimpArgs false
namespace Go.Proofs.YtgeoidnleagloaaGreatDoor
open Go.RowKit Yk

/-- A number from 0 up to n comes back. -/
def PickPost (n : Int) (w : World) (e : Ending) (w' : World) : Prop := ∃ k : Int, e = .returned (.int .i64 k) ∧ 0 ≤ k ∧ k < n ∧ w = w'
set_option maxRecDepth 100000 in
theorem pick4_any (c n : Int) (hc0 : -9223372036854775808 ≤ c) (hc1 : c ≤ 9223372036854775807) (hn : 0 < n) (hn1 : n ≤ 9223372036854775807) (w : World) :
    Calls Tryz.prog 46 #[.int .i64 c, .int .i64 n] w (PickPost n w) := by
  have hne : n ≠ 0 := by omega
  by_cases hc : c < 0
  · have h0 : 0 ≤ -(c + 1) := by omega
    have h1 := Int.tmod_nonneg n h0
    have h2 := Int.tmod_lt_of_pos (-(c + 1)) hn
    rw [Int.neg_tmod] at h1 h2
    go_enter Tryz.func46, Tryz.ntmps46
    go_wp2
    go_ret
    exact ⟨_, rfl, h1, h2, rfl⟩
  · have h0 : 0 ≤ c := by omega
    have h1 := Int.emod_nonneg c hne
    have h2 := Int.emod_lt_of_pos c hn
    go_enter Tryz.func46, Tryz.ntmps46
    go_wp2
    go_ret
    exact ⟨_, rfl, h1, h2, rfl⟩
/-- A fraction with at most k digits above and below comes back. -/
def FewPost (k : Nat) (w : World) (e : Ending) (w' : World) : Prop := ∃ q : Rat, e = .returned (vR (rT q)) ∧ Few k q ∧ Below w.heap.size w w'
theorem few_mk {n d : Int} {k : Nat} (hd : d ≠ 0) (h1 : n.natAbs < 10 ^ k) (h2 : d.natAbs < 10 ^ k) (hk : k ≤ 200) : rMk n d = (rT (Rat.divInt n d), 0) ∧ Few k (Rat.divInt n d) :=
  ⟨rMk_ok (small_lt h1 hk) (small_lt h2 hk) hd, Few.divInt hd h1 h2⟩
set_option maxRecDepth 100000 in
set_option maxHeartbeats 1000000 in
theorem small_any (x0 x1 : Int) (a0 : -9223372036854775808 ≤ x0) (a1 : x0 ≤ 9223372036854775807) (b0 : -9223372036854775808 ≤ x1) (b1 : x1 ≤ 9223372036854775807) (w : World) :
    Calls Tryz.prog 28 #[.agg #[.int .i64 x0, .int .i64 x1]] w (FewPost 3 w) := by
  have P0 := Lib.hid (fun w => pick4_any x0 1999 a0 a1 (by decide) (by decide) w)
  have P1 := Lib.hid (fun w => pick4_any x1 60 b0 b1 (by decide) (by decide) w)
  have O : Hid (∀ (n d : Int) (w : World), -999 ≤ n → n ≤ 999 → 1 ≤ d → d ≤ 60 → Calls Tryz.prog 42 #[.int .i64 n, .int .i64 d] w fun e w' => ∃ q : Rat, ∃ p1 p2 : ByteArray, (p1, p2) = rT q ∧ e = .returned (.tuple #[.agg #[.string p1, .string p2], .int .i64 0]) ∧ Few 3 q ∧ Below w.heap.size w w') := by
    refine Lib.hid ?_
    intro n d w h1 h2 h3 h4
    obtain ⟨e1, e2⟩ := few_mk (n := n) (d := d) (k := 3) (by omega) (by omega) (by omega) (by decide)
    have := ref4Of_any n d w (by omega) (by omega) (by omega) (by omega)
    rw [e1] at this
    refine this.mono ?_
    rintro e w' ⟨rfl, hb⟩
    exact ⟨_, _, _, rfl, rfl, e2, hb⟩
  have q0 : Blk ((w.alloc (.cells #[.int .i64 x0, .int .i64 x1] 47)).alloc (.cells #[.string ⟨#[]⟩, .string ⟨#[]⟩] 23)) w.heap.size #[.int .i64 x0, .int .i64 x1] 47 := (Blk.new w _ _).alloc _
  have q1 : Blk ((w.alloc (.cells #[.int .i64 x0, .int .i64 x1] 47)).alloc (.cells #[.string ⟨#[]⟩, .string ⟨#[]⟩] 23)) (w.heap.size + 1) #[.string ⟨#[]⟩, .string ⟨#[]⟩] 23 := Blk.newAt _ _ _ (by simp)
  have q2 : Below w.heap.size w ((w.alloc (.cells #[.int .i64 x0, .int .i64 x1] 47)).alloc (.cells #[.string ⟨#[]⟩, .string ⟨#[]⟩] 23)) := ((Below.refl _ w).alloc (Nat.le_refl _) _).alloc (by simp) _
  have X0 := Lib.hid q0
  have R0 := Lib.hid q1
  have L0 := Lib.hid q2
  clear q0 q1 q2 a0 a1 b0 b1
  have hmx : Tryz.prog.follows .mixedOrders = true := by kernel_rfl
  go_enter Tryz.func28, Tryz.ntmps28
  go_wp2
  generalize ((w.alloc (.cells #[.int .i64 x0, .int .i64 x1] 47)).alloc (.cells #[.string ⟨#[]⟩, .string ⟨#[]⟩] 23)) = w0 at *
  obtain ⟨c1, c2, _, _, c5⟩ := blk2 X0.out
  go_region_held3 (fun w' => (w'.cell? ⟨w.heap.size, 0, none⟩ = some (.int .i64 x0)) ∧ (w'.cell? ⟨w.heap.size, 1, none⟩ = some (.int .i64 x1))) (go_keep)
    ((first
      | (go_at_call 46; (with_reducible refine (P0.out _).mono ?_); rintro e wx ⟨k0, rfl, i1, i2, rfl⟩)
      | (go_at_call 46; (with_reducible refine (P1.out _).mono ?_); rintro e wx ⟨k1, rfl, i3, i4, rfl⟩)
      | (go_at_call 42; rw [show IntKind.i64.wrap (k0 - 999) = k0 - 999 from IntWalk.i64_in _ (by omega), show IntKind.i64.wrap (1 + k1) = 1 + k1 from IntWalk.i64_in _ (by omega)]
         refine (O.out _ _ _ (by omega) (by omega) (by omega) (by omega)).mono ?_; rintro e w5 ⟨q, t1, t2, hq, rfl, hf, hb5⟩
         have X5 := Lib.hid (Blk.below (w := (w0.alloc (.cells #[.string ⟨#[]⟩, .string ⟨#[]⟩] 23)).drew) (Blk.alloc X0.out _) hb5 (by have := X0.out.lt; simp; omega))
         have R5 := Lib.hid (Blk.below (w := (w0.alloc (.cells #[.string ⟨#[]⟩, .string ⟨#[]⟩] 23)).drew) (Blk.alloc R0.out _) hb5 (by have := R0.out.lt; simp; omega))
         have N5 := Lib.hid (Blk.below (w := (w0.alloc (.cells #[.string ⟨#[]⟩, .string ⟨#[]⟩] 23)).drew) (Blk.new w0 _ _) hb5 (by simp))
         have L5 := Lib.hid ((L0.out.alloc L0.out.size _).drew.trans (hb5.mono (by have := L0.out.size; simp; omega)))
         have Hs := Lib.hid L0.out.size
         have Hq := Lib.hid hq
         have Hf := Lib.hid hf
         obtain ⟨d1, d2, _, _, d5⟩ := blk2 X5.out
         obtain ⟨n1, n2, n3, n4, n5⟩ := blk2 N5.out
         obtain ⟨r1, r2, r3, r4, r5⟩ := blk2 R5.out
         have hne1 : ¬ (w0.heap.size = w.heap.size) := by omega
         have hne2 : ¬ (w.heap.size = w0.heap.size) := by omega
         have hne5 := R0.out.lt
         have hne3 : ¬ (w0.heap.size = w.heap.size + 1) := by omega
         have hne4 : ¬ (w.heap.size + 1 = w0.heap.size) := by omega
         clear hb5 hq hf)
      | (go_at_call 42; rw [show IntKind.i64.wrap (k0 - 999) = k0 - 999 from IntWalk.i64_in _ (by omega), show IntKind.i64.wrap (1 + k1) = 1 + k1 from IntWalk.i64_in _ (by omega)]
         refine (O.out _ _ _ (by omega) (by omega) (by omega) (by omega)).mono ?_; rintro e w5 ⟨q, t1, t2, hq, rfl, hf, hb5⟩
         have X5 := Lib.hid (Blk.below (w := w0.drew) X0.out hb5 X0.out.lt)
         have R5 := Lib.hid (Blk.below (w := w0.drew) R0.out hb5 R0.out.lt)
         have L5 := Lib.hid (L0.out.drew.trans (hb5.mono L0.out.size))
         have Hs := Lib.hid L0.out.size
         have Hq := Lib.hid hq
         have Hf := Lib.hid hf
         obtain ⟨d1, d2, _, _, d5⟩ := blk2 X5.out
         obtain ⟨r1, r2, r3, r4, r5⟩ := blk2 R5.out
         clear hb5 hq hf)))
  all_goals go_wp2
  all_goals
    refine bodyPost_ret (v := vR (t1, t2)) (by simp [results, Tryz.results28, go_sem, *]) rfl ⟨q, by rw [← Hq.out], Hf.out, ?_⟩
    have hs5 := L5.out.size
    have hs0 := Hs.out
    first
      | exact ((L5.out.setCell (by simp) _).setCell (by simp) _).alloc (by simp [World.setCell] <;> omega) _
      | exact (((L5.out.setCell (by simp <;> omega) _).setCell (by simp <;> omega) _).setCell (by simp) _).setCell (by simp) _
end Go.Proofs.YtgeoidnleagloaaGreatDoor
