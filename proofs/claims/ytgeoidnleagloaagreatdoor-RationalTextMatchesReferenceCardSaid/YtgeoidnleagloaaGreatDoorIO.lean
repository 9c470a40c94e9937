/- Walks of package integer: Mul, FromInt. -/
import Derived.Test.YtgeoidnleagloaaGreatDoorIN
set_option linter.unusedVariables false
set_option linter.unusedSimpArgs false
namespace Go.Proofs.YtgeoidnleagloaaGreatDoor
open Go.RowKit Yk

theorem sgn_mul (na nb : Bool) (x y : Nat) : sgn (na != nb) (x * y) = sgn na x * sgn nb y := by
  cases na <;> cases nb <;> simp [sgn, Int.neg_mul, Int.mul_neg]
theorem digs_len_mul {x y : Nat} (hx : (digs 10000 x).length ≤ 50) (hy : (digs 10000 y).length ≤ 50) : (digs 10000 (x * y)).length ≤ 100 := by
  have h1 := (digs_length_le (B := 10000) (by decide) x 50).1 hx
  have h2 := (digs_length_le (B := 10000) (by decide) y 50).1 hy
  refine (digs_length_le (by decide) _ 100).2 ?_
  rw [show 100 = 50 + 50 from rfl, Nat.pow_add]
  exact Nat.mul_lt_mul'' h1 h2
theorem from_own {w : World} {v : Value} {l : List Nat} (h : Rd encN w v l) : ∀ k, v.ownBlock = some k → k < w.heap.size := by
  intro k hk
  rcases h with ⟨rfl, _⟩ | ⟨b, off, cap, rfl, hb, _⟩
  · cases hk
  · cases hk; exact hb

set_option maxRecDepth 100000 in
set_option maxHeartbeats 1000000 in
theorem intMul_any (a b : ByteArray) (w : World) (hg : Glob w) (hsa : a.size ≤ maxLen) (hsb : b.size ≤ maxLen) :
    Calls Tryz.prog 89 #[.string a, .string b] w fun e w' => e = .returned (.tuple #[.string (iMul a b).1, .int .i64 (iMul a b).2]) ∧ Below w.heap.size w w' := by
  by_cases h : (vS a && vS b) = true
  · have hr : iMul a b = chkI (nS a * nS b) := by unfold iMul; rw [if_pos h]
    rw [hr]
    obtain ⟨ha, hb⟩ := both_vals h
    have hB := Lib.hid (fun w => both_yes a b ha hb w)
    have hla := digs_len_nS ha
    have hlb := digs_len_nS hb
    have hna := nS_sgn a
    have hnb := nS_sgn b
    have hx1 := nS_lt ha
    have hy1 := nS_lt hb
    generalize negB a.data.toList = na at *
    generalize negB b.data.toList = nb at *
    generalize (nS a).natAbs = x at *
    generalize (nS b).natAbs = y at *
    rw [hna, hnb]
    have hz := digs_len_mul hla hlb
    rw [← sgn_mul]
    have Hz := Lib.hid hz
    have Hla := Lib.hid hla
    have Hlb := Lib.hid hlb
    have Hg := Lib.hid hg
    clear h hr ha hb hsa hsb hla hlb hna hnb hz hg
    go_enter Tryz.func89, Tryz.ntmps89
    go_wp2_with fail
    (with_reducible refine (hB.out _).mono ?_); rintro e w1 ⟨v1, v2, rfl, hr1, hr2, hf1, hf2, hb1⟩
    obtain ⟨a1, k1, rfl, _⟩ := hr1.open'
    obtain ⟨a2, k2, rfl, _⟩ := hr2.open'
    have H1 := Lib.hid hr1
    have H2 := Lib.hid hr2
    have HB := Lib.hid hb1
    have hs1 := hb1.size
    clear hr1 hr2 hf1 hf2 hb1
    have hbl : ∀ o1 o2, Below w1.heap.size w1 ((w1.alloc o1).alloc o2) := fun o1 o2 => ((Below.refl _ _).alloc (Nat.le_refl _) _).alloc (by simp) _
    have Hbl := Lib.hid hbl
    clear hbl
    have hmx : Tryz.prog.follows .mixedOrders = true := by kernel_rfl
    obtain ⟨n1, e1⟩ : ∃ n, (digs 10000 x).length = n := ⟨_, rfl⟩
    obtain ⟨n2, e2⟩ : ∃ n, (digs 10000 y).length = n := ⟨_, rfl⟩
    rw [e1] at H1
    rw [e2] at H2
    simp only [e1, e2]
    clear e1 e2
    go_wp2_with fail
    have r1 : Blk ((w1.alloc (.cells #[.bool na, .slice a1 n1 k1] 100)).alloc (.cells #[.bool nb, .slice a2 n2 k2] 100)) w1.heap.size #[.bool na, .slice a1 n1 k1] 100 := (Blk.new w1 _ _).alloc _
    have r2 : Blk ((w1.alloc (.cells #[.bool na, .slice a1 n1 k1] 100)).alloc (.cells #[.bool nb, .slice a2 n2 k2] 100)) (w1.heap.size + 1) #[.bool nb, .slice a2 n2 k2] 100 := Blk.newAt _ _ _ (by simp)
    have rb := Hbl.out (.cells #[.bool na, .slice a1 n1 k1] 100) (.cells #[.bool nb, .slice a2 n2 k2] 100)
    generalize ((w1.alloc (.cells #[.bool na, .slice a1 n1 k1] 100)).alloc (.cells #[.bool nb, .slice a2 n2 k2] 100)) = W0 at *
    obtain ⟨p1, p2, _, _, _⟩ := blk2 r1
    obtain ⟨q1, q2, _, _, _⟩ := blk2 r2
    have R1 := Lib.hid r1
    have R2 := Lib.hid r2
    have RB := Lib.hid rb
    clear r1 r2 rb
    go_region_held3 (fun w' => (w'.cell? ⟨w1.heap.size, 0, none⟩ = some (.bool na) ∧ w'.cell? ⟨w1.heap.size, 1, none⟩ = some (.slice a1 n1 k1)) ∧ (w'.cell? ⟨w1.heap.size + 1, 0, none⟩ = some (.bool nb) ∧ w'.cell? ⟨w1.heap.size + 1, 1, none⟩ = some (.slice a2 n2 k2))) (go_keep)
      ((first
        | (go_at_call 116; refine (numTimes_any x y _ _ _ (H1.out.below RB.out.drew) (H2.out.below RB.out.drew) (by have := Hla.out; omega) (by have := Hlb.out; omega) (from_own (H2.out.below RB.out.drew))).mono ?_
           rintro e w6 ⟨v6, rfl, hr6, hf6, hb6⟩
           obtain ⟨u1, u2, u3, u4, _⟩ := blk2 (Blk.below (w := W0.drew) R1.out hb6 R1.out.lt)
           obtain ⟨z1, z2, z3, z4, _⟩ := blk2 (Blk.below (w := W0.drew) R2.out hb6 R2.out.lt)
           obtain ⟨a6, k6, rfl, _⟩ := hr6.open'
           have HR6 := Lib.hid hr6
           have HB6 := Lib.hid hb6
           clear hr6 hf6 hb6)
        | (go_at_call 82; refine (text_any _ _ _ _ HR6.out (((Hg.out.below HB.out).below RB.out.drew).below HB6.out) (by have := Hz.out; omega)).mono ?_
           rintro e w7 ⟨rfl, hb7⟩
           obtain ⟨u1, u2, u3, u4, _⟩ := blk2 ((Blk.below (w := W0.drew) R1.out HB6.out R1.out.lt).below hb7 (Nat.lt_of_lt_of_le R1.out.lt HB6.out.size))
           obtain ⟨z1, z2, z3, z4, _⟩ := blk2 ((Blk.below (w := W0.drew) R2.out HB6.out R2.out.lt).below hb7 (Nat.lt_of_lt_of_le R2.out.lt HB6.out.size))
           have HB7 := Lib.hid hb7
           clear hb7)))
    all_goals go_wp2
    all_goals go_ret2
    all_goals refine ⟨rfl, ?_⟩
    all_goals
      have s1 := RB.out.size
      have s6 := HB6.out.size
      exact HB.out.trans ((RB.out.mono hs1).drew.trans ((HB6.out.mono (Nat.le_trans hs1 s1)).trans (HB7.out.mono (Nat.le_trans (Nat.le_trans hs1 s1) s6))))
  · have hr : iMul a b = (ByteArray.empty, 30) := by unfold iMul; rw [if_neg h]
    rw [hr]
    have hB := Lib.hid (fun w => both_no a b (Bool.not_eq_true _ ▸ h) w hsa hsb)
    clear h hr hsa hsb hg
    go_enter Tryz.func89, Tryz.ntmps89
    go_wp2_with fail
    (with_reducible refine (hB.out _).mono ?_); rintro e w1 ⟨rfl, hb1⟩
    have HB := Lib.hid hb1
    clear hb1
    go_wp2
    go_ret2
    refine ⟨rfl, ?_⟩
    have := HB.out.size
    exact (HB.out.alloc (by omega) _).alloc (by simp; omega) _

set_option maxRecDepth 100000 in
theorem fromInt_any (n : Int) (h0 : -9223372036854775808 ≤ n) (h1 : n ≤ 9223372036854775807) (w : World) (hg : Glob w) :
    Calls Tryz.prog 72 #[.int .i64 n] w fun e w' => e = .returned (.string (ofI n)) ∧ Below w.heap.size w w' := by
  have Hi := Lib.hid (fun w hg => Tryz.strconv_Itoa n h0 h1 w hg)
  have Hg := Lib.hid hg.2.1
  clear h0 h1 hg
  go_enter Tryz.func72, Tryz.ntmps72
  go_wp2_with fail
  (with_reducible refine (Hi.out _ Hg.out).mono ?_); rintro e w' ⟨rfl, k, os, rfl⟩
  go_wp2
  go_ret
  exact ⟨rfl, ⟨rfl, rfl, rfl, by simp [Go.Sort.grow], fun b hb => by simp [Go.Sort.grow, Array.getElem?_append, hb]⟩⟩
end Go.Proofs.YtgeoidnleagloaaGreatDoor
