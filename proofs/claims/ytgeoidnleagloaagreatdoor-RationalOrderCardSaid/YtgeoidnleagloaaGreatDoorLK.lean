/- The law RationalOrder: what its run comes to, and that it holds. -/
import Derived.Test.YtgeoidnleagloaaGreatDoorLV
set_option linter.unusedVariables false
set_option linter.unusedSimpArgs false
namespace Go.Proofs.YtgeoidnleagloaaGreatDoor
open Go Go.RowKit Go.Sy Yk

set_option maxRecDepth 100000 in
theorem order_vc (x0 x1 x2 x3 y0 y1 y2 y3 z0 z1 z2 z3 s0 s1 : Int) (K : SV → Prop) :
    runS (fun _ _ => none) 4 9 [sv4 x0 x1 x2 x3, sv4 y0 y1 y2 y3, sv4 z0 z1 z2 z3, sv2 s0 s1] K = (
needB (i64 x0 && i64 x1 && i64 x2 && i64 x3)
  (∀ (x : Rat),
    x.num.natAbs < 10000000000000000000000000000000000000000000000000000000000000000000000000000000000000000000000000000 ∧
        x.den < 10000000000000000000000000000000000000000000000000000000000000000000000000000000000000000000000000000 →
      needB (i64 y0 && i64 y1 && i64 y2 && i64 y3)
        (∀ (x_1 : Rat),
          x_1.num.natAbs < 10000000000000000000000000000000000000000000000000000000000000000000000000000000000000000000000000000 ∧
              x_1.den < 10000000000000000000000000000000000000000000000000000000000000000000000000000000000000000000000000000 →
            needB (i64 z0 && i64 z1 && i64 z2 && i64 z3)
              (∀ (x_2 : Rat),
                x_2.num.natAbs < 10000000000000000000000000000000000000000000000000000000000000000000000000000000000000000000000000000 ∧
                    x_2.den < 10000000000000000000000000000000000000000000000000000000000000000000000000000000000000000000000000000 →
                  needB (i64 s0 && i64 s1)
                    (∀ (x_3 : Rat),
                      x_3.num.natAbs < 1000 ∧ x_3.den < 1000 →
                        needB (sz (rT x).fst && sz (rT x).snd && sz (rT x_1).fst && sz (rT x_1).snd)
                          (needB (sz (rT x_1).fst && sz (rT x_1).snd && sz (rT x_2).fst && sz (rT x_2).snd)
                            (needB (sz (rT x).fst && sz (rT x).snd && sz (rT x_2).fst && sz (rT x_2).snd)
                              (needB (sz (rT x_1).fst && sz (rT x_1).snd && sz (rT x).fst && sz (rT x).snd)
                                (needB (inR IntKind.i64 (-rCmp (rT x) (rT x_1)))
                                  (needB
                                    (impB
                                      (!(rCmp (rT x_1) (rT x) != -rCmp (rT x) (rT x_1) || !(rCmp (rT x) (rT x_1) == 0) == (seq (rT x).fst (rT x_1).fst && (seq (rT x).snd (rT x_1).snd && true)) ||
                                            decide (rCmp (rT x) (rT x_1) < -1) ||
                                          decide (rCmp (rT x) (rT x_1) > 1)))
                                      (sz (rT x).fst && sz (rT x).snd && sz (rT x).fst && sz (rT x).snd))
                                    (branch
                                      (rCmp (rT x_1) (rT x) != -rCmp (rT x) (rT x_1) || !(rCmp (rT x) (rT x_1) == 0) == (seq (rT x).fst (rT x_1).fst && (seq (rT x).snd (rT x_1).snd && true)) ||
                                                decide (rCmp (rT x) (rT x_1) < -1) ||
                                              decide (rCmp (rT x) (rT x_1) > 1) ||
                                            rCmp (rT x) (rT x) != 0 ||
                                          decide (rCmp (rT x) (rT x_1) ≤ 0) && decide (rCmp (rT x_1) (rT x_2) ≤ 0) && decide (rCmp (rT x) (rT x_2) > 0) ||
                                        decide (rCmp (rT x) (rT x_1) ≤ 0) && decide (rCmp (rT x_1) (rT x_2) < 0) && decide (rCmp (rT x) (rT x_2) ≥ 0))
                                      (K (SV.val (Value.bool false)))
                                      (needB (sz (rT x).fst && sz (rT x).snd && sz (rT x_1).fst && sz (rT x_1).snd)
                                        (needB (impB ((rSub (rT x) (rT x_1)).snd == 0) (sz (rSub (rT x) (rT x_1)).fst.fst && sz (rSub (rT x) (rT x_1)).fst.snd && true && true))
                                          (branch ((rSub (rT x) (rT x_1)).snd == 0 && rCmp (rSub (rT x) (rT x_1)).fst ({ data := #[48] }, { data := #[49] }) != rCmp (rT x) (rT x_1))
                                            (K (SV.val (Value.bool false)))
                                            (needB (sz (rT x).fst && sz (rT x).snd && sz (rT x_3).fst && sz (rT x_3).snd)
                                              (needB (sz (rT x_1).fst && sz (rT x_1).snd && sz (rT x_3).fst && sz (rT x_3).snd)
                                                (needB
                                                  (impB ((rAdd (rT x) (rT x_3)).snd == 0 && (rAdd (rT x_1) (rT x_3)).snd == 0)
                                                    (sz (rAdd (rT x) (rT x_3)).fst.fst && sz (rAdd (rT x) (rT x_3)).fst.snd && sz (rAdd (rT x_1) (rT x_3)).fst.fst &&
                                                      sz (rAdd (rT x_1) (rT x_3)).fst.snd))
                                                  (branch
                                                    ((rAdd (rT x) (rT x_3)).snd == 0 && (rAdd (rT x_1) (rT x_3)).snd == 0 &&
                                                      rCmp (rAdd (rT x) (rT x_3)).fst (rAdd (rT x_1) (rT x_3)).fst != rCmp (rT x) (rT x_1))
                                                    (K (SV.val (Value.bool false)))
                                                    (needB (sz (rT x).fst && sz (rT x).snd && sz (rT x_3).fst && sz (rT x_3).snd)
                                                      (needB (sz (rT x_1).fst && sz (rT x_1).snd && sz (rT x_3).fst && sz (rT x_3).snd)
                                                        (needB
                                                          (impB (!((rMul (rT x) (rT x_3)).snd != 0 || (rMul (rT x_1) (rT x_3)).snd != 0))
                                                            (sz (rMul (rT x) (rT x_3)).fst.fst && sz (rMul (rT x) (rT x_3)).fst.snd && sz (rMul (rT x_1) (rT x_3)).fst.fst &&
                                                              sz (rMul (rT x_1) (rT x_3)).fst.snd))
                                                          (needB (impB (!((rMul (rT x) (rT x_3)).snd != 0 || (rMul (rT x_1) (rT x_3)).snd != 0)) (sz (rT x_3).fst && sz (rT x_3).snd && true && true))
                                                            (needB
                                                              (impB (!((rMul (rT x) (rT x_3)).snd != 0 || (rMul (rT x_1) (rT x_3)).snd != 0))
                                                                (inR IntKind.i64 (rCmp (rT x) (rT x_1) * rCmp (rT x_3) ({ data := #[48] }, { data := #[49] }))))
                                                              (K
                                                                (SV.val
                                                                  (Value.bool
                                                                    (true &&
                                                                      ((rMul (rT x) (rT x_3)).snd != 0 || (rMul (rT x_1) (rT x_3)).snd != 0 ||
                                                                        rCmp (rMul (rT x) (rT x_3)).fst (rMul (rT x_1) (rT x_3)).fst ==
                                                                          rCmp (rT x) (rT x_1) * rCmp (rT x_3) ({ data := #[48] }, { data := #[49] }))))))))))))))))))))))))))))) := by kernel_rfl

set_option maxRecDepth 100000 in
theorem order_any (x0 x1 x2 x3 y0 y1 y2 y3 z0 z1 z2 z3 s0 s1 : Int) (x0l : -9223372036854775808 ≤ x0) (x0h : x0 ≤ 9223372036854775807) (x1l : -9223372036854775808 ≤ x1) (x1h : x1 ≤ 9223372036854775807) (x2l : -9223372036854775808 ≤ x2) (x2h : x2 ≤ 9223372036854775807) (x3l : -9223372036854775808 ≤ x3) (x3h : x3 ≤ 9223372036854775807) (y0l : -9223372036854775808 ≤ y0) (y0h : y0 ≤ 9223372036854775807) (y1l : -9223372036854775808 ≤ y1) (y1h : y1 ≤ 9223372036854775807) (y2l : -9223372036854775808 ≤ y2) (y2h : y2 ≤ 9223372036854775807) (y3l : -9223372036854775808 ≤ y3) (y3h : y3 ≤ 9223372036854775807) (z0l : -9223372036854775808 ≤ z0) (z0h : z0 ≤ 9223372036854775807) (z1l : -9223372036854775808 ≤ z1) (z1h : z1 ≤ 9223372036854775807) (z2l : -9223372036854775808 ≤ z2) (z2h : z2 ≤ 9223372036854775807) (z3l : -9223372036854775808 ≤ z3) (z3h : z3 ≤ 9223372036854775807) (s0l : -9223372036854775808 ≤ s0) (s0h : s0 ≤ 9223372036854775807) (s1l : -9223372036854775808 ≤ s1) (s1h : s1 ≤ 9223372036854775807) (w : World) (hg : Glob w) :
    Calls Tryz.prog 9 #[.agg #[.int .i64 x0, .int .i64 x1, .int .i64 x2, .int .i64 x3], .agg #[.int .i64 y0, .int .i64 y1, .int .i64 y2, .int .i64 y3], .agg #[.int .i64 z0, .int .i64 z1, .int .i64 z2, .int .i64 z3], .agg #[.int .i64 s0, .int .i64 s1]] w fun e w' => e = .returned (.bool true) ∧ Below w.heap.size w w' := by
  refine law_run hg (ann := fun _ _ => none) (n := 4) (args := [sv4 x0 x1 x2 x3, sv4 y0 y1 y2 y3, sv4 z0 z1 z2 z3, sv2 s0 s1]) rfl ?_
  rw [order_vc]
  have I : ∀ {n : Int}, -9223372036854775808 ≤ n → n ≤ 9223372036854775807 → i64 n = true := fun a b => i64_iff.2 ⟨a, b⟩
  simp only [I x0l x0h, I x1l x1h, I x2l x2h, I x3l x3h, I y0l y0h, I y1l y1h, I y2l y2h, I y3l y3h, I z0l z0h, I z1l z1h, I z2l z2h, I z3l z3h, I s0l s0h, I s1l s1h, Bool.and_self, needB_true]
  intro p hp q hq r hr t ht
  replace hp : Few 100 p := hp
  replace hq : Few 100 q := hq
  replace hr : Few 100 r := hr
  replace ht : Few 3 t := ht
  have Va := (hp.rT (by decide)).1
  have Vb := (hq.rT (by decide)).1
  have Vc := (hr.rT (by decide)).1
  have Vt := (ht.rT (by decide)).1
  have sa := sz_few hp (by decide)
  have sb := sz_few hq (by decide)
  have sc := sz_few hr (by decide)
  have st := sz_few ht (by decide)
  generalize rT p = a at *
  generalize rT q = b at *
  generalize rT r = c at *
  generalize rT t = t at *
  simp only [sa.1, sa.2, sb.1, sb.2, sc.1, sc.2, st.1, st.2, (rSub_sz _ _).1, (rSub_sz _ _).2, (rAdd_sz _ _).1, (rAdd_sz _ _).2, (rMul_sz _ _).1, (rMul_sz _ _).2, Bool.and_self, Bool.true_and, needB_true, impB_true, seq2, zero_lit]
  rw [needB_iff]
  refine ⟨inR_small (by have := @cmp_i64 a b; omega) (by have := @cmp_i64 a b; omega), ?_⟩
  have e1 := ord_neg Va Vb
  have e0 := ord_zero Va Vb
  have rg := ord_range Va Vb
  have ce := cmp_self2 Va
  have l1 := ord_le Va Vb Vc
  have l2 := ord_lt Va Vb Vc
  rw [branch_iff]
  refine ⟨fun h => ?_, fun _ => ?_⟩
  · exfalso
    rw [e1, ce] at h
    simp only [Bool.or_eq_true, Bool.and_eq_true, decide_eq_true_eq, bne_self_eq_false, Bool.false_eq_true, false_or] at h
    rcases h with ((((h | h) | h) | h) | ⟨⟨h1, h2⟩, h3⟩) | ⟨⟨h1, h2⟩, h3⟩
    · by_cases hab : a = b
      · have := e0.2 hab
        simp [this, hab] at h
        rw [hab] at this
        rw [this] at h
        simp at h
      · have : rCmp a b ≠ 0 := fun e => hab (e0.1 e)
        simp [this, hab] at h
    · omega
    · omega
    · exact absurd h (by decide)
    · have := l1 h1 h2; omega
    · have := l2 h1 h2; omega
  rw [branch_iff]
  refine ⟨fun h => ?_, fun _ => ?_⟩
  · exfalso
    simp only [Bool.and_eq_true, beq_iff_eq, bne_iff_ne, ne_eq] at h
    exact h.2 (law_sign Va Vb h.1)
  rw [branch_iff]
  refine ⟨fun h => ?_, fun _ => ?_⟩
  · exfalso
    simp only [Bool.and_eq_true, beq_iff_eq, bne_iff_ne, ne_eq] at h
    exact h.2 (law_shift Va Vb h.1.1 h.1.2)
  have key : (rCmp a b * rCmp t rZero) ≤ 1 ∧ -1 ≤ (rCmp a b * rCmp t rZero) := by
    have r2 := @cmp_i64 t rZero
    rcases rg with h | h | h <;> rw [h] <;> omega
  rw [needB_iff]
  refine ⟨?_, ?_⟩
  · rw [impB_iff]
    intro _
    exact inR_small (by omega) (by omega)
  rw [yes_iff]
  by_cases h1 : (rMul a t).2 = 0
  · by_cases h2 : (rMul b t).2 = 0
    · simp [h1, h2, law_scale Va Vb Vt h1 h2]
    · simp [h2]
  · simp [h1]
end Go.Proofs.YtgeoidnleagloaaGreatDoor
