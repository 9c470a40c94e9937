/- Walks of package integer: Compare, Add, Sub, Mul, FromInt. -/
import Derived.Test.YtgeoidnleagloaaGreatDoorIM
set_option linter.unusedVariables false
set_option linter.unusedSimpArgs false
namespace Go.Proofs.YtgeoidnleagloaaGreatDoor
open Go.RowKit Yk

theorem nS_neg {s : ByteArray} (h : vS s = true) (hn : negB s.data.toList = true) : nS s < 0 := by
  have h1 := nS_sgn s
  rw [hn] at h1
  unfold sgn at h1
  simp only [if_true] at h1
  by_cases h0 : (nS s).natAbs = 0
  · have h2 : nS s = 0 := by omega
    have h3 := ofI_nS h
    rw [h2] at h3
    rw [← h3, ofI_list] at hn
    simp [negB, itoa_pos, decDigits_digs] at hn
  · omega
theorem nS_pos {s : ByteArray} (hn : negB s.data.toList = false) : 0 ≤ nS s := by
  have h1 := nS_sgn s
  rw [hn] at h1
  unfold sgn at h1
  simp only [Bool.false_eq_true, if_false] at h1
  omega
theorem both_vals {a b : ByteArray} (h : (vS a && vS b) = true) : vS a = true ∧ vS b = true := by simpa using h

set_option maxRecDepth 100000 in
theorem intCompare_any (a b : ByteArray) (w : World) (hsa : a.size ≤ maxLen) (hsb : b.size ≤ maxLen) :
    Calls Tryz.prog 50 #[.string a, .string b] w fun e w' => e = .returned (.int .i64 (iCmp a b)) ∧ Below w.heap.size w w' := by
  by_cases h : (vS a && vS b) = true
  · have hr : iCmp a b = cmpI (nS a) (nS b) := by unfold iCmp; rw [if_pos h]
    rw [hr]
    obtain ⟨ha, hb⟩ := both_vals h
    have hB := Lib.hid (fun w => both_yes a b ha hb w)
    have hla := digs_len_nS ha
    have hlb := digs_len_nS hb
    have hna := nS_sgn a
    have hnb := nS_sgn b
    have hla' := @nS_neg a ha
    have hlb' := @nS_neg b hb
    have hpa := @nS_pos a
    have hpb := @nS_pos b
    generalize negB a.data.toList = na at *
    generalize negB b.data.toList = nb at *
    generalize hx : (nS a).natAbs = x at *
    generalize hy : (nS b).natAbs = y at *
    have Hla := Lib.hid hla
    have Hlb := Lib.hid hlb
    clear h hr ha hb hsa hsb hla hlb
    cases na <;> cases nb
    · have hres : cmpI (nS a) (nS b) = cmpN x y := by rw [hna, hnb]; exact cmp_sgn_pos x y
      rw [hres]
      clear hres hna hnb hla' hlb' hpa hpb hx hy
      go_enter Tryz.func50, Tryz.ntmps50
      go_wp2_with fail
      (with_reducible refine (hB.out _).mono ?_); rintro e w1 ⟨v1, v2, rfl, hr1, hr2, hf1, hf2, hb1⟩
      obtain ⟨a1, k1, rfl, _⟩ := hr1.open'
      obtain ⟨a2, k2, rfl, _⟩ := hr2.open'
      have H1 := Lib.hid hr1
      have H2 := Lib.hid hr2
      have HB := Lib.hid hb1
      clear hr1 hr2 hf1 hf2 hb1
      go_wp2_with (go_at_call 80; refine (compare_any x y _ _ _ (H1.out.below (((Below.refl _ _).alloc (Nat.le_refl _) _).alloc (by simp) _)) (H2.out.below (((Below.refl _ _).alloc (Nat.le_refl _) _).alloc (by simp) _)) (by have := Hla.out; omega)).mono ?_; rintro e w2 ⟨rfl, hb2⟩)
      go_ret
      refine ⟨rfl, ?_⟩
      have := HB.out.size
      exact ((HB.out.alloc (by omega) _).alloc (by simp; omega) _).trans (hb2.mono (by simp; omega))
    · have hres : cmpI (nS a) (nS b) = 1 := by have := hpa rfl; have := hlb' rfl; unfold cmpI; rw [if_neg (by omega), if_pos (by omega)]
      rw [hres]
      clear hres hna hnb hla' hlb' hpa hpb hx hy
      go_enter Tryz.func50, Tryz.ntmps50
      go_wp2_with fail
      (with_reducible refine (hB.out _).mono ?_); rintro e w1 ⟨v1, v2, rfl, hr1, hr2, hf1, hf2, hb1⟩
      obtain ⟨a1, k1, rfl, _⟩ := hr1.open'
      obtain ⟨a2, k2, rfl, _⟩ := hr2.open'
      clear hr1 hr2 hf1 hf2
      have HB := Lib.hid hb1
      clear hb1
      go_wp2
      go_ret
      refine ⟨rfl, ?_⟩
      have := HB.out.size
      exact (HB.out.alloc (by omega) _).alloc (by simp; omega) _
    · have hres : cmpI (nS a) (nS b) = -1 := by have := hpb rfl; have := hla' rfl; unfold cmpI; rw [if_pos (by omega)]
      rw [hres]
      clear hres hna hnb hla' hlb' hpa hpb hx hy
      go_enter Tryz.func50, Tryz.ntmps50
      go_wp2_with fail
      (with_reducible refine (hB.out _).mono ?_); rintro e w1 ⟨v1, v2, rfl, hr1, hr2, hf1, hf2, hb1⟩
      obtain ⟨a1, k1, rfl, _⟩ := hr1.open'
      obtain ⟨a2, k2, rfl, _⟩ := hr2.open'
      clear hr1 hr2 hf1 hf2
      have HB := Lib.hid hb1
      clear hb1
      go_wp2
      go_ret
      refine ⟨rfl, ?_⟩
      have := HB.out.size
      exact (HB.out.alloc (by omega) _).alloc (by simp; omega) _
    · have hres : cmpI (nS a) (nS b) = cmpN y x := by rw [hna, hnb]; exact cmp_sgn_neg x y
      rw [hres]
      clear hres hna hnb hla' hlb' hpa hpb hx hy
      go_enter Tryz.func50, Tryz.ntmps50
      go_wp2_with fail
      (with_reducible refine (hB.out _).mono ?_); rintro e w1 ⟨v1, v2, rfl, hr1, hr2, hf1, hf2, hb1⟩
      obtain ⟨a1, k1, rfl, _⟩ := hr1.open'
      obtain ⟨a2, k2, rfl, _⟩ := hr2.open'
      have H1 := Lib.hid hr1
      have H2 := Lib.hid hr2
      have HB := Lib.hid hb1
      clear hr1 hr2 hf1 hf2 hb1
      go_wp2_with (go_at_call 80; refine (compare_any y x _ _ _ (H2.out.below (((Below.refl _ _).alloc (Nat.le_refl _) _).alloc (by simp) _)) (H1.out.below (((Below.refl _ _).alloc (Nat.le_refl _) _).alloc (by simp) _)) (by have := Hlb.out; omega)).mono ?_; rintro e w2 ⟨rfl, hb2⟩)
      go_ret
      refine ⟨rfl, ?_⟩
      have := HB.out.size
      exact ((HB.out.alloc (by omega) _).alloc (by simp; omega) _).trans (hb2.mono (by simp; omega))
  · have hr : iCmp a b = 0 := by unfold iCmp; rw [if_neg h]
    rw [hr]
    have hB := Lib.hid (fun w => both_no a b (Bool.not_eq_true _ ▸ h) w hsa hsb)
    clear h hr hsa hsb
    go_enter Tryz.func50, Tryz.ntmps50
    go_wp2_with fail
    (with_reducible refine (hB.out _).mono ?_); rintro e w1 ⟨rfl, hb1⟩
    have HB := Lib.hid hb1
    clear hb1
    go_wp2
    go_ret
    refine ⟨rfl, ?_⟩
    have := HB.out.size
    exact (HB.out.alloc (by omega) _).alloc (by simp; omega) _
theorem digs_len_two {z : Nat} (h : z < BIG + BIG) : (digs 10000 z).length ≤ 51 := by
  refine (digs_length_le (by decide) z 51).2 ?_
  have h1 : z < BIG * 10 := by omega
  have h2 : BIG * 10 ≤ 10000 ^ 51 := by
    unfold BIG
    rw [← Nat.pow_succ, show (10000 : Nat) = 10 ^ 4 from rfl, ← Nat.pow_mul]
    exact Nat.pow_le_pow_right (by decide) (by decide)
  exact Nat.lt_of_lt_of_le h1 h2
set_option maxRecDepth 100000 in
set_option maxHeartbeats 1000000 in
theorem intAdd_any (a b : ByteArray) (w : World) (hg : Glob w) (hsa : a.size ≤ maxLen) (hsb : b.size ≤ maxLen) :
    Calls Tryz.prog 62 #[.string a, .string b] w fun e w' => e = .returned (.tuple #[.string (iAdd a b).1, .int .i64 (iAdd a b).2]) ∧ Below w.heap.size w w' := by
  by_cases h : (vS a && vS b) = true
  · have hr : iAdd a b = chkI (nS a + nS b) := by unfold iAdd; rw [if_pos h]
    rw [hr]
    obtain ⟨ha, hb⟩ := both_vals h
    have hB := Lib.hid (fun w => both_yes a b ha hb w)
    have hla := digs_len_nS ha
    have hlb := digs_len_nS hb
    have hna := nS_sgn a
    have hnb := nS_sgn b
    have hx1 := nS_lt ha
    have hy1 := nS_lt hb
    generalize negB a.data.toList = na at *
    generalize negB b.data.toList = nb at *
    generalize (nS a).natAbs = x at *
    generalize (nS b).natAbs = y at *
    rw [hna, hnb]
    have hz : ∀ neg z, sgn neg z = sgn na x + sgn nb y → (digs 10000 z).length ≤ 51 := by
      intro neg z hz
      have h1 := congrArg Int.natAbs hz
      have h2 := sgn_abs na x
      have h3 := sgn_abs nb y
      rw [sgn_abs] at h1
      exact digs_len_two (by omega)
    have Hz := Lib.hid hz
    have Hla := Lib.hid hla
    have Hlb := Lib.hid hlb
    have Hg := Lib.hid hg
    clear h hr ha hb hsa hsb hla hlb hna hnb hz hg
    go_enter Tryz.func62, Tryz.ntmps62
    go_wp2_with fail
    (with_reducible refine (hB.out _).mono ?_); rintro e w1 ⟨v1, v2, rfl, hr1, hr2, hf1, hf2, hb1⟩
    obtain ⟨a1, k1, rfl, _⟩ := hr1.open'
    obtain ⟨a2, k2, rfl, _⟩ := hr2.open'
    have H1 := Lib.hid hr1
    have H2 := Lib.hid hr2
    have HB := Lib.hid hb1
    have hs1 := hb1.size
    clear hr1 hr2 hf1 hf2 hb1
    have hbl : ∀ o1 o2, Below w1.heap.size w1 ((w1.alloc o1).alloc o2) := fun o1 o2 => ((Below.refl _ _).alloc (Nat.le_refl _) _).alloc (by simp) _
    have Hbl := Lib.hid hbl
    clear hbl
    go_wp2_with fail
    refine (sgPlus_any na (nb) x y _ _ _ (H1.out.below (Hbl.out _ _)) (H2.out.below (Hbl.out _ _)) (by have := Hla.out; omega) (by have := Hlb.out; omega)).mono ?_
    rintro e w2 ⟨neg, z, v, rfl, hs, hr, hf, hb2⟩
    have hgw := ((Hg.out.below HB.out).below (Hbl.out _ _)).below hb2
    have hl := Hz.out _ _ hs
    have HB2 := Lib.hid (HB.out.trans ((Hbl.out _ _).mono hs1 |>.trans (hb2.mono (by simp; omega))))
    have hs2 := HB2.out.size
    have HS := Lib.hid hs
    have HR := Lib.hid hr
    have HG := Lib.hid hgw
    have HL := Lib.hid hl
    clear hs hr hf hb2 hgw hl
    go_wp2_with fail
    refine (text_any neg z v _ HR.out HG.out (by have := HL.out; omega)).mono ?_
    rw [HS.out]
    rintro e w3 ⟨rfl, hb3⟩
    go_wp2
    go_ret2
    exact ⟨rfl, HB2.out.trans (hb3.mono hs2)⟩
  · have hr : iAdd a b = (ByteArray.empty, 30) := by unfold iAdd; rw [if_neg h]
    rw [hr]
    have hB := Lib.hid (fun w => both_no a b (Bool.not_eq_true _ ▸ h) w hsa hsb)
    clear h hr hsa hsb hg
    go_enter Tryz.func62, Tryz.ntmps62
    go_wp2_with fail
    (with_reducible refine (hB.out _).mono ?_); rintro e w1 ⟨rfl, hb1⟩
    have HB := Lib.hid hb1
    clear hb1
    go_wp2
    go_ret2
    refine ⟨rfl, ?_⟩
    have := HB.out.size
    exact (HB.out.alloc (by omega) _).alloc (by simp; omega) _
set_option maxRecDepth 100000 in
set_option maxHeartbeats 1000000 in
theorem intSub_any (a b : ByteArray) (w : World) (hg : Glob w) (hsa : a.size ≤ maxLen) (hsb : b.size ≤ maxLen) :
    Calls Tryz.prog 73 #[.string a, .string b] w fun e w' => e = .returned (.tuple #[.string (iSub a b).1, .int .i64 (iSub a b).2]) ∧ Below w.heap.size w w' := by
  by_cases h : (vS a && vS b) = true
  · have hr : iSub a b = chkI (nS a - nS b) := by unfold iSub; rw [if_pos h]
    rw [hr]
    obtain ⟨ha, hb⟩ := both_vals h
    have hB := Lib.hid (fun w => both_yes a b ha hb w)
    have hla := digs_len_nS ha
    have hlb := digs_len_nS hb
    have hna := nS_sgn a
    have hnb := nS_sgn b
    have hx1 := nS_lt ha
    have hy1 := nS_lt hb
    generalize negB a.data.toList = na at *
    generalize negB b.data.toList = nb at *
    generalize (nS a).natAbs = x at *
    generalize (nS b).natAbs = y at *
    rw [hna, hnb]
    have hm : sgn na x - sgn nb y = sgn na x + sgn (!nb) y := by unfold sgn; cases nb <;> simp; omega
    rw [hm]
    clear hm
    have hz : ∀ neg z, sgn neg z = sgn na x + sgn (!nb) y → (digs 10000 z).length ≤ 51 := by
      intro neg z hz
      have h1 := congrArg Int.natAbs hz
      have h2 := sgn_abs na x
      have h3 := sgn_abs (!nb) y
      rw [sgn_abs] at h1
      exact digs_len_two (by omega)
    have Hz := Lib.hid hz
    have Hla := Lib.hid hla
    have Hlb := Lib.hid hlb
    have Hg := Lib.hid hg
    clear h hr ha hb hsa hsb hla hlb hna hnb hz hg
    go_enter Tryz.func73, Tryz.ntmps73
    go_wp2_with fail
    (with_reducible refine (hB.out _).mono ?_); rintro e w1 ⟨v1, v2, rfl, hr1, hr2, hf1, hf2, hb1⟩
    obtain ⟨a1, k1, rfl, _⟩ := hr1.open'
    obtain ⟨a2, k2, rfl, _⟩ := hr2.open'
    have H1 := Lib.hid hr1
    have H2 := Lib.hid hr2
    have HB := Lib.hid hb1
    have hs1 := hb1.size
    clear hr1 hr2 hf1 hf2 hb1
    have hbl : ∀ o1 o2, Below w1.heap.size w1 ((w1.alloc o1).alloc o2) := fun o1 o2 => ((Below.refl _ _).alloc (Nat.le_refl _) _).alloc (by simp) _
    have Hbl := Lib.hid hbl
    clear hbl
    go_wp2_with fail
    refine (sgPlus_any na ((!nb)) x y _ _ _ (H1.out.below (Hbl.out _ _)) (H2.out.below (Hbl.out _ _)) (by have := Hla.out; omega) (by have := Hlb.out; omega)).mono ?_
    rintro e w2 ⟨neg, z, v, rfl, hs, hr, hf, hb2⟩
    have hgw := ((Hg.out.below HB.out).below (Hbl.out _ _)).below hb2
    have hl := Hz.out _ _ hs
    have HB2 := Lib.hid (HB.out.trans ((Hbl.out _ _).mono hs1 |>.trans (hb2.mono (by simp; omega))))
    have hs2 := HB2.out.size
    have HS := Lib.hid hs
    have HR := Lib.hid hr
    have HG := Lib.hid hgw
    have HL := Lib.hid hl
    clear hs hr hf hb2 hgw hl
    go_wp2_with fail
    refine (text_any neg z v _ HR.out HG.out (by have := HL.out; omega)).mono ?_
    rw [HS.out]
    rintro e w3 ⟨rfl, hb3⟩
    go_wp2
    go_ret2
    exact ⟨rfl, HB2.out.trans (hb3.mono hs2)⟩
  · have hr : iSub a b = (ByteArray.empty, 30) := by unfold iSub; rw [if_neg h]
    rw [hr]
    have hB := Lib.hid (fun w => both_no a b (Bool.not_eq_true _ ▸ h) w hsa hsb)
    clear h hr hsa hsb hg
    go_enter Tryz.func73, Tryz.ntmps73
    go_wp2_with fail
    (with_reducible refine (hB.out _).mono ?_); rintro e w1 ⟨rfl, hb1⟩
    have HB := Lib.hid hb1
    clear hb1
    go_wp2
    go_ret2
    refine ⟨rfl, ?_⟩
    have := HB.out.size
    exact (HB.out.alloc (by omega) _).alloc (by simp; omega) _
end Go.Proofs.YtgeoidnleagloaaGreatDoor
