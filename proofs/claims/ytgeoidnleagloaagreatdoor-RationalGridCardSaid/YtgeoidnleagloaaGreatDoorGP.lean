/- The law RationalGrid: the plain part. -/
import Derived.Test.YtgeoidnleagloaaGreatDoorPL
set_option linter.unusedVariables false
set_option linter.unusedSimpArgs false
namespace Go.Proofs.YtgeoidnleagloaaGreatDoor
open Go Yk

theorem ten_small {p : Nat} (h : p ≤ 30) : (ten p).natAbs < 10 ^ 31 := by
  unfold ten
  rw [Int.natAbs_natCast]
  exact Nat.pow_lt_pow_right (by decide) (by omega)
theorem ten0 (p : Nat) : 0 < ten p := by unfold ten; have : 0 < 10 ^ p := Nat.pow_pos (by decide); omega

/-- A fraction whose value is a multiple of the grid. -/
theorem on_grid {a : RS} (ha : rV a = true) {k : Int} {p : Nat} (hq : qV a = Rat.divInt k (ten p)) : nS a.1 * ten p = k * nS a.2 := by
  have h0 := ten0 p
  have hd := (rV_parts ha).2.2.1
  have : cmpQ (qV a) (Rat.divInt k (ten p)) = 0 := by rw [hq, cmpQ_zero]
  unfold qV at this
  rw [cmpQ_divInt hd h0] at this
  unfold cmpI at this
  split at this
  · omega
  · split at this <;> omega

theorem small30 {n : Int} {k : Nat} (h : n.natAbs < 10 ^ k) (hk : k ≤ 140) : small n = true := small_lt h (by omega)

theorem grid_mk {k : Int} {p : Nat} (hk : k.natAbs < 10 ^ 140) (hp : p ≤ 30) : rMk k (ten p) = (rT (Rat.divInt k (ten p)), 0) ∧ rV (rT (Rat.divInt k (ten p))) = true := by
  have h0 := ten0 p
  have s1 : small k = true := small_lt hk (by decide)
  have s2 : small (ten p) = true := small_lt (ten_small hp) (by decide)
  exact ⟨rMk_ok s1 s2 (by omega), rV_mk s1 s2 (by omega)⟩

theorem prod_few {a : RS} (ha : FewR 100 a) {p : Nat} (hp : p ≤ 30) : (nS a.1 * ten p).natAbs < 10 ^ 131 := by
  rw [Int.natAbs_mul]
  exact mul_pow_lt ha.2.1 (ten_small hp)

theorem ediv_few {x d : Int} (hd : 0 < d) {n : Nat} (h : x.natAbs < n) : (x / d).natAbs ≤ n ∧ (x / d + 1).natAbs ≤ n + 1 := by
  have key : (x / d).natAbs ≤ n := by
    have h1 : (x / d).natAbs ≤ x.natAbs := Int.natAbs_ediv_le_natAbs x d
    omega
  exact ⟨key, by omega⟩

/-- The multiple of the grid below, and the one above. -/
def flo (a : RS) (p : Nat) : Int := nS a.1 * ten p / nS a.2
def cei (a : RS) (p : Nat) : Int := if nS a.1 * ten p % nS a.2 = 0 then flo a p else flo a p + 1

theorem flo_few {a : RS} (ha : FewR 100 a) {p : Nat} (hp : p ≤ 30) : (flo a p).natAbs < 10 ^ 140 ∧ (cei a p).natAbs < 10 ^ 140 := by
  have hd := (rV_parts ha.1).2.2.1
  obtain ⟨h1, h2⟩ := ediv_few hd (prod_few ha hp)
  have e1 : (10 : Nat) ^ 131 + 1 < 10 ^ 140 := by decide
  unfold cei flo
  refine ⟨by omega, ?_⟩
  split <;> omega

theorem down_few {a : RS} (ha : FewR 100 a) {p : Nat} (hp : p ≤ 30) : Gives (rDown a p) (Rat.divInt (flo a p) (ten p)) := by
  obtain ⟨h1, h2⟩ := grid_mk (flo_few ha hp).1 hp
  have s : small (nS a.1 * ten p) = true := small_lt (prod_few ha hp) (by decide)
  refine ⟨?_, h2⟩
  unfold rDown
  rw [if_pos (by simp [ha.1, s]; omega)]
  simpa [flo] using h1
theorem up_few {a : RS} (ha : FewR 100 a) {p : Nat} (hp : p ≤ 30) : Gives (rUp a p) (Rat.divInt (cei a p) (ten p)) := by
  obtain ⟨h1, h2⟩ := grid_mk (flo_few ha hp).2 hp
  have s : small (nS a.1 * ten p) = true := small_lt (prod_few ha hp) (by decide)
  refine ⟨?_, h2⟩
  unfold rUp
  rw [if_pos (by simp [ha.1, s]; omega)]
  simpa [flo, cei] using h1

/-- A multiple of the grid stays. -/
theorem down_on {a : RS} (ha : rV a = true) {k : Int} {p : Nat} (hp : p ≤ 30) (hk : k.natAbs < 10 ^ 140) (hq : qV a = Rat.divInt k (ten p)) : rDown a p = (a, 0) ∧ rUp a p = (a, 0) := by
  have hd := (rV_parts ha).2.2.1
  have e := on_grid ha hq
  obtain ⟨h1, h2⟩ := grid_mk hk hp
  have e2 : nS a.1 * ten p / nS a.2 = k := by rw [e]; exact Int.mul_ediv_cancel _ (by omega)
  have e3 : nS a.1 * ten p % nS a.2 = 0 := by rw [e]; exact Int.mul_emod_left _ _
  have back : rT (Rat.divInt k (ten p)) = a := by rw [← hq]; exact rT_qV ha
  -- the value is k / T in lowest terms: the denominator divides T
  have hden : (nS a.2).natAbs ≤ (ten p).natAbs := by
    have := divInt_le k (ten p) (by have := ten0 p; omega)
    rw [← hq] at this
    have h3 := (qV_num ha).2
    omega
  have s : small (nS a.1 * ten p) = true := by
    refine small_lt (k := 171) ?_ (by decide)
    rw [e, Int.natAbs_mul]
    exact mul_pow_lt hk (Nat.lt_of_le_of_lt hden (ten_small hp))
  constructor
  · unfold rDown
    rw [if_pos (by simp [ha, s]; omega)]
    simp only [Int.toNat_natCast, e2, h1, back]
  · unfold rUp
    rw [if_pos (by simp [ha, s]; omega)]
    simp only [Int.toNat_natCast, e2, e3, if_true, h1, back]


theorem flo_le {a : RS} (ha : rV a = true) (p : Nat) : flo a p * nS a.2 ≤ nS a.1 * ten p ∧ nS a.1 * ten p ≤ cei a p * nS a.2 ∧ (flo a p * nS a.2 = nS a.1 * ten p ↔ nS a.1 * ten p % nS a.2 = 0) ∧ (cei a p * nS a.2 = nS a.1 * ten p ↔ nS a.1 * ten p % nS a.2 = 0) := by
  have hd := (rV_parts ha).2.2.1
  unfold cei flo
  generalize nS a.1 * ten p = x at *
  generalize nS a.2 = d at *
  have h1 := Int.mul_ediv_add_emod x d
  have h2 := Int.emod_nonneg x (show d ≠ 0 by omega)
  have h3 := Int.emod_lt_of_pos x hd
  rw [Int.mul_comm] at h1
  have h4 : (x / d + 1) * d = x / d * d + d := by rw [Int.add_mul, Int.one_mul]
  by_cases h : x % d = 0
  · rw [if_pos h]
    exact ⟨by omega, by omega, by omega, by omega⟩
  · rw [if_neg h]
    exact ⟨by omega, by omega, by omega, by omega⟩

/-- The value of a fraction turned. -/
theorem neg_few {r : RS} (hr : FewR 100 r) : FewR 100 (rSub rZero r).1 ∧ nS (rSub rZero r).1.1 = - nS r.1 ∧ nS (rSub rZero r).1.2 = nS r.2 := by
  have h0 := FewR.sub few_zero hr (by decide)
  have g := (rSub_gives h0).2.2
  have hv : qV (rSub rZero r).1 = - qV r := by rw [g.val, qV_zero]; grind
  have q1 := qV_num g.valid
  have q2 := qV_num hr.1
  rw [hv, Rat.neg_num, Rat.neg_den, q2.1, q2.2] at q1
  refine ⟨⟨g.valid, ?_, ?_⟩, q1.1.symm, q1.2.symm⟩
  · rw [← q1.1, Int.natAbs_neg]; exact hr.2.1
  · rw [← q1.2]; exact hr.2.2
theorem flo_neg {r s : RS} (hr : rV r = true) (h1 : nS s.1 = - nS r.1) (h2 : nS s.2 = nS r.2) (p : Nat) : flo s p = - cei r p := by
  have hd := (rV_parts hr).2.2.1
  unfold cei flo
  rw [h1, h2, Int.neg_mul]
  generalize nS r.1 * ten p = x at *
  generalize nS r.2 = d at *
  have h1 := Int.mul_ediv_add_emod x d
  have h2 := Int.emod_nonneg x (show d ≠ 0 by omega)
  have h3 := Int.emod_lt_of_pos x hd
  by_cases h : x % d = 0
  · rw [if_pos h]
    refine ((Int.ediv_emod_unique (r := 0) hd).2 ?_).1
    refine ⟨?_, by omega, hd⟩
    rw [Int.mul_neg]; omega
  · rw [if_neg h]
    refine ((Int.ediv_emod_unique (r := d - x % d) hd).2 ?_).1
    refine ⟨?_, by omega, by omega⟩
    rw [Int.mul_neg, Int.mul_add, Int.mul_one]; omega

theorem rT_neg_sub {k : Int} {p : Nat} (hk : k.natAbs < 10 ^ 140) (hp : p ≤ 30) : (rSub rZero (rT (Rat.divInt (-k) (ten p)))).1 = rT (Rat.divInt k (ten p)) := by
  have h0 := ten0 p
  have fw : FewR 141 (rT (Rat.divInt (-k) (ten p))) := by
    refine Few.rT (Few.divInt (by omega) ?_ ?_) (by decide)
    · rw [Int.natAbs_neg]; exact Nat.lt_of_lt_of_le hk (Nat.pow_le_pow_right (by decide) (by decide))
    · exact Nat.lt_of_lt_of_le (ten_small hp) (Nat.pow_le_pow_right (by decide) (by decide))
  have h1 := FewR.sub few_zero fw (by decide)
  have g := (rSub_gives h1).2.2
  rw [g.fst, qV_zero, qV_rT, ← Rat.neg_divInt]
  congr 1
  grind

theorem nS_le (k d : Int) (hd : 0 < d) : (nS (rT (Rat.divInt k d)).1).natAbs ≤ k.natAbs ∧ (nS (rT (Rat.divInt k d)).2).natAbs ≤ d.natAbs := by
  have := divInt_le k d (by omega)
  unfold rT
  simp only [nS_ofI]
  exact ⟨this.1, by omega⟩
theorem vt1v (z : Int) : Rat.divInt z 1 = (z : Rat) := by
  rw [Rat.divInt_eq_div]; grind
theorem vt1 {p : Nat} (hp : p ≤ 30) : rV (ofI (ten p), ofI 1) = true := by
  have h : (ofI (ten p), ofI 1) = rT (Rat.divInt (ten p) 1) := by
    rw [vt1v]; rfl
  rw [h]
  exact rV_mk (small_lt (ten_small hp) (by decide)) (by decide) (by decide)

theorem cmpI_nul {x y : Int} : cmpI x y = 0 ↔ x = y := by
  unfold cmpI; split
  · omega
  · split <;> omega

theorem grid_facts {r : RS} (hr : FewR 100 r) {p : Nat} (hp : p ≤ 30) :
    ∃ a b c : RS, rDown r p = (a, 0) ∧ rUp r p = (b, 0) ∧ rDown (rSub rZero r).1 p = (c, 0) ∧ (rSub rZero c).1 = b ∧ rCmp a r ≤ 0 ∧ 0 ≤ rCmp b r ∧ rDown b p = (b, 0) ∧ rUp a p = (a, 0) ∧
      (rMul a (ofI (ten p), ofI 1)).2 = 0 ∧ (rMul a (ofI (ten p), ofI 1)).1.2 = ofI 1 ∧ (rSub b a).2 = 0 ∧ (rSub b a).1 = (if rCmp a r = 0 then rZero else (ofI 1, ofI (ten p))) ∧ (rCmp a r = 0 ↔ rCmp b r = 0) ∧ rV a = true ∧ rV b = true ∧ rV c = true := by
  have h0 := ten0 p
  have hd := (rV_parts hr.1).2.2.1
  obtain ⟨f1, f2⟩ := flo_few hr hp
  obtain ⟨l1, l2, l3, l4⟩ := flo_le hr.1 p
  obtain ⟨n1, n2, n3⟩ := neg_few hr
  have D := down_few hr hp
  have U := up_few hr hp
  have C := down_few n1 hp
  rw [flo_neg hr.1 n2 n3] at C
  have a1 := Nat.lt_of_le_of_lt (nS_le (flo r p) (ten p) h0).1 f1
  have a2 := Nat.lt_of_le_of_lt (nS_le (flo r p) (ten p) h0).2 (ten_small hp)
  have b1 := Nat.lt_of_le_of_lt (nS_le (cei r p) (ten p) h0).1 f2
  have b2 := Nat.lt_of_le_of_lt (nS_le (cei r p) (ten p) h0).2 (ten_small hp)
  have m1 : small (nS (rT (Rat.divInt (flo r p) (ten p))).1 * nS (ofI (ten p))) = true := by
    rw [nS_ofI]; exact small_mul (i := 140) (j := 31) a1 (ten_small hp) (by decide)
  have m2 : small (nS (rT (Rat.divInt (flo r p) (ten p))).2 * nS (ofI 1)) = true := by
    rw [nS_ofI]; exact small_mul (i := 31) (j := 1) a2 (by decide) (by decide)
  have s0 : (rSub (rT (Rat.divInt (cei r p) (ten p))) (rT (Rat.divInt (flo r p) (ten p)))).2 = 0 := by
    refine rSub_ok U.2 D.2 (small_mul (i := 140) (j := 31) b1 a2 (by decide)) (small_mul (i := 140) (j := 31) a1 b2 (by decide)) (small_lt (k := 172) (abs_add_lt (k := 171) ?_ ?_).2 (by decide)) (small_mul (i := 31) (j := 31) b2 a2 (by decide))
    · rw [Int.natAbs_mul]; exact mul_pow_lt b1 a2
    · rw [Int.natAbs_mul]; exact mul_pow_lt a1 b2
  refine ⟨_, _, _, D.1, U.1, C.1, rT_neg_sub f2 hp, ?_, ?_, ?_, ?_, ?_, ?_, ?_, ?_, ?_, D.2, U.2, C.2⟩
  · rw [rCmp_val D.2 hr.1, qV_rT]
    show cmpQ _ (Rat.divInt _ _) ≤ 0
    rw [cmpQ_divInt h0 hd]; unfold cmpI; split; · decide
    split; · omega
    · decide
  · rw [rCmp_val U.2 hr.1, qV_rT]
    show 0 ≤ cmpQ _ (Rat.divInt _ _)
    rw [cmpQ_divInt h0 hd]; unfold cmpI; split; · omega
    split <;> decide
  · exact (down_on U.2 hp f2 (qV_rT _)).1
  · exact (down_on D.2 hp f1 (qV_rT _)).2
  · exact rMul_ok D.2 (vt1 hp) m1 m2
  · have h := rMul_ok (a := rT (Rat.divInt (flo r p) (ten p))) (b := (ofI (ten p), ofI 1)) D.2 (vt1 hp) m1 m2
    have g := (rMul_gives h).2.2
    rw [g.fst, qV_rT]
    have e : Rat.divInt (flo r p) (ten p) * qV (ofI (ten p), ofI 1) = ((flo r p : Int) : Rat) := by
      unfold qV
      simp only [nS_ofI]
      rw [vt1v, Rat.divInt_eq_div]
      have := castne (show ten p ≠ 0 by omega)
      grind
    rw [e]; rfl
  · exact s0
  · have g := (rSub_gives s0).2.2
    rw [g.fst, qV_rT, qV_rT]
    have ce : rCmp (rT (Rat.divInt (flo r p) (ten p))) r = cmpI (flo r p * nS r.2) (nS r.1 * ten p) := by
      rw [rCmp_val D.2 hr.1, qV_rT]
      show cmpQ _ (Rat.divInt _ _) = _
      rw [cmpQ_divInt h0 hd]
    by_cases h : nS r.1 * ten p % nS r.2 = 0
    · rw [if_pos (by rw [ce, l3.2 h, cmpI_self])]
      have : cei r p = flo r p := by unfold cei; rw [if_pos h]
      rw [this, rZero_eq]
      congr 1; grind
    · rw [if_neg (by
        rw [ce]; intro h1
        refine h (l3.1 ?_)
        unfold cmpI at h1
        split at h1
        · omega
        · split at h1 <;> omega)]
      have : cei r p = flo r p + 1 := by unfold cei; rw [if_neg h]
      have e : Rat.divInt (flo r p + 1) (ten p) - Rat.divInt (flo r p) (ten p) = Rat.divInt 1 (ten p) := by
        have := castne (show ten p ≠ 0 by omega)
        rw [Rat.divInt_eq_div, Rat.divInt_eq_div, Rat.divInt_eq_div]
        grind
      rw [this, e]
      have : rT (Rat.divInt 1 (ten p)) = (ofI (Rat.divInt 1 (ten p)).num, ofI (Rat.divInt 1 (ten p)).den) := rfl
      rw [this]
      obtain ⟨q1, q2⟩ := divInt_pos_num (n := 1) h0
      rw [q1, q2]
      simp
  · have ce : rCmp (rT (Rat.divInt (flo r p) (ten p))) r = cmpI (flo r p * nS r.2) (nS r.1 * ten p) := by
      rw [rCmp_val D.2 hr.1, qV_rT]
      show cmpQ _ (Rat.divInt _ _) = _
      rw [cmpQ_divInt h0 hd]
    have cu : rCmp (rT (Rat.divInt (cei r p) (ten p))) r = cmpI (cei r p * nS r.2) (nS r.1 * ten p) := by
      rw [rCmp_val U.2 hr.1, qV_rT]
      show cmpQ _ (Rat.divInt _ _) = _
      rw [cmpQ_divInt h0 hd]
    rw [ce, cu, cmpI_nul, cmpI_nul, l3, l4]
end Go.Proofs.YtgeoidnleagloaaGreatDoor
