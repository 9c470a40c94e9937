/- The law RationalField: what its run comes to, and that it holds. -/
import Derived.Test.YtgeoidnleagloaaGreatDoorLV
set_option linter.unusedVariables false
set_option linter.unusedSimpArgs false
namespace Go.Proofs.YtgeoidnleagloaaGreatDoor
open Go Go.RowKit Go.Sy Yk

set_option maxRecDepth 100000 in
theorem fieldT_vc (x0 x1 x2 x3 y0 y1 y2 y3 z0 z1 : Int) (K : SV → Prop) :
    runS (fun _ _ => none) 4 8 [sv4 x0 x1 x2 x3, sv4 y0 y1 y2 y3, sv2 z0 z1, .val (.bool true)] K = (
needB (i64 x0 && i64 x1)
  (∀ (x : Rat),
    x.num.natAbs < 1000 ∧ x.den < 1000 →
      needB (i64 y0 && i64 y1)
        (∀ (x : Rat),
          x.num.natAbs < 1000 ∧ x.den < 1000 →
            needB (i64 z0 && i64 z1)
              (∀ (x : Rat),
                x.num.natAbs < 1000 ∧ x.den < 1000 →
                  needB (i64 x0 && i64 x1 && i64 x2 && i64 x3)
                    (∀ (x_1 : Rat),
                      x_1.num.natAbs < 10000000000000000000000000000000000000000000000000000000000000000000000000000000000000000000000000000 ∧
                          x_1.den < 10000000000000000000000000000000000000000000000000000000000000000000000000000000000000000000000000000 →
                        needB (i64 y0 && i64 y1 && i64 y2 && i64 y3)
                          (∀ (x_2 : Rat),
                            x_2.num.natAbs < 10000000000000000000000000000000000000000000000000000000000000000000000000000000000000000000000000000 ∧
                                x_2.den < 10000000000000000000000000000000000000000000000000000000000000000000000000000000000000000000000000000 →
                              needB (sz (rT x_1).fst && sz (rT x_1).snd && sz (rT x_2).fst && sz (rT x_2).snd)
                                (needB (sz (rT x_1).fst && sz (rT x_1).snd && sz (rT x_2).fst && sz (rT x_2).snd)
                                  (needB (sz (rT x_1).fst && sz (rT x_1).snd && sz (rT x_2).fst && sz (rT x_2).snd)
                                    (needB (sz (rT x_1).fst && sz (rT x_1).snd && sz (rT x_2).fst && sz (rT x_2).snd)
                                      (needB (sz (rT x_2).fst && sz (rT x_2).snd && sz (rT x_1).fst && sz (rT x_1).snd)
                                        (needB (sz (rT x_2).fst && sz (rT x_2).snd && sz (rT x_1).fst && sz (rT x_1).snd)
                                          (needB (sz (rT x_2).fst && sz (rT x_2).snd && sz (rT x_1).fst && sz (rT x_1).snd)
                                            (needB (sz (rT x_2).fst && sz (rT x_2).snd && sz (rT x_1).fst && sz (rT x_1).snd)
                                              (branch
                                                ((!(seq (rAdd (rT x_1) (rT x_2)).fst.fst (rAdd (rT x_2) (rT x_1)).fst.fst &&
                                                            (seq (rAdd (rT x_1) (rT x_2)).fst.snd (rAdd (rT x_2) (rT x_1)).fst.snd && true)) ||
                                                        !(seq (rMul (rT x_1) (rT x_2)).fst.fst (rMul (rT x_2) (rT x_1)).fst.fst &&
                                                            (seq (rMul (rT x_1) (rT x_2)).fst.snd (rMul (rT x_2) (rT x_1)).fst.snd && true)) ||
                                                      (rAdd (rT x_1) (rT x_2)).snd != (rAdd (rT x_2) (rT x_1)).snd ||
                                                    (rMul (rT x_1) (rT x_2)).snd != (rMul (rT x_2) (rT x_1)).snd) &&
                                                  true)
                                                (K (SV.val (Value.bool false)))
                                                (needB (sz (rT x_2).fst && sz (rT x_2).snd && sz (rT x).fst && sz (rT x).snd)
                                                  (needB (sz (rT x_2).fst && sz (rT x_2).snd && sz (rT x).fst && sz (rT x).snd)
                                                    (needB (sz (rT x_2).fst && sz (rT x_2).snd && sz (rT x).fst && sz (rT x).snd)
                                                      (needB (sz (rT x_2).fst && sz (rT x_2).snd && sz (rT x).fst && sz (rT x).snd)
                                                        (needB (sz (rAdd (rT x_1) (rT x_2)).fst.fst && sz (rAdd (rT x_1) (rT x_2)).fst.snd && sz (rT x).fst && sz (rT x).snd)
                                                          (needB (sz (rAdd (rT x_1) (rT x_2)).fst.fst && sz (rAdd (rT x_1) (rT x_2)).fst.snd && sz (rT x).fst && sz (rT x).snd)
                                                            (needB (sz (rAdd (rT x_1) (rT x_2)).fst.fst && sz (rAdd (rT x_1) (rT x_2)).fst.snd && sz (rT x).fst && sz (rT x).snd)
                                                              (needB (sz (rAdd (rT x_1) (rT x_2)).fst.fst && sz (rAdd (rT x_1) (rT x_2)).fst.snd && sz (rT x).fst && sz (rT x).snd)
                                                                (needB (sz (rT x_1).fst && sz (rT x_1).snd && sz (rAdd (rT x_2) (rT x)).fst.fst && sz (rAdd (rT x_2) (rT x)).fst.snd)
                                                                  (branch
                                                                    ((rAdd (rT x_1) (rT x_2)).snd == 0 && (rAdd (rT x_2) (rT x)).snd == 0 && (rAdd (rAdd (rT x_1) (rT x_2)).fst (rT x)).snd == 0 &&
                                                                        (rAdd (rT x_1) (rAdd (rT x_2) (rT x)).fst).snd == 0 &&
                                                                      !(seq (rAdd (rAdd (rT x_1) (rT x_2)).fst (rT x)).fst.fst (rAdd (rT x_1) (rAdd (rT x_2) (rT x)).fst).fst.fst &&
                                                                          (seq (rAdd (rAdd (rT x_1) (rT x_2)).fst (rT x)).fst.snd (rAdd (rT x_1) (rAdd (rT x_2) (rT x)).fst).fst.snd && true)))
                                                                    (K (SV.val (Value.bool false)))
                                                                    (needB (sz (rT x_1).fst && sz (rT x_1).snd && sz (rMul (rT x_2) (rT x)).fst.fst && sz (rMul (rT x_2) (rT x)).fst.snd)
                                                                      (needB (sz (rMul (rT x_1) (rT x_2)).fst.fst && sz (rMul (rT x_1) (rT x_2)).fst.snd && sz (rT x).fst && sz (rT x).snd)
                                                                        (branch
                                                                          ((rMul (rT x_1) (rT x_2)).snd == 0 && (rMul (rT x_2) (rT x)).snd == 0 &&
                                                                                (rMul (rT x_1) (rMul (rT x_2) (rT x)).fst).snd == 0 &&
                                                                              (rMul (rMul (rT x_1) (rT x_2)).fst (rT x)).snd == 0 &&
                                                                            !(seq (rMul (rT x_1) (rMul (rT x_2) (rT x)).fst).fst.fst (rMul (rMul (rT x_1) (rT x_2)).fst (rT x)).fst.fst &&
                                                                                (seq (rMul (rT x_1) (rMul (rT x_2) (rT x)).fst).fst.snd (rMul (rMul (rT x_1) (rT x_2)).fst (rT x)).fst.snd && true)))
                                                                          (K (SV.val (Value.bool false)))
                                                                          (needB (sz (rT x_1).fst && sz (rT x_1).snd && sz (rT x).fst && sz (rT x).snd)
                                                                            (needB
                                                                              (sz (rMul (rT x_1) (rT x)).fst.fst && sz (rMul (rT x_1) (rT x)).fst.snd && sz (rMul (rT x_2) (rT x)).fst.fst &&
                                                                                sz (rMul (rT x_2) (rT x)).fst.snd)
                                                                              (needB (sz (rAdd (rT x_1) (rT x_2)).fst.fst && sz (rAdd (rT x_1) (rT x_2)).fst.snd && sz (rT x).fst && sz (rT x).snd)
                                                                                (branch
                                                                                  ((rAdd (rT x_1) (rT x_2)).snd == 0 && (rMul (rT x_1) (rT x)).snd == 0 && (rMul (rT x_2) (rT x)).snd == 0 &&
                                                                                        (rAdd (rMul (rT x_1) (rT x)).fst (rMul (rT x_2) (rT x)).fst).snd == 0 &&
                                                                                      (rMul (rAdd (rT x_1) (rT x_2)).fst (rT x)).snd == 0 &&
                                                                                    !(seq (rAdd (rMul (rT x_1) (rT x)).fst (rMul (rT x_2) (rT x)).fst).fst.fst
                                                                                          (rMul (rAdd (rT x_1) (rT x_2)).fst (rT x)).fst.fst &&
                                                                                        (seq (rAdd (rMul (rT x_1) (rT x)).fst (rMul (rT x_2) (rT x)).fst).fst.snd
                                                                                            (rMul (rAdd (rT x_1) (rT x_2)).fst (rT x)).fst.snd &&
                                                                                          true)))
                                                                                  (K (SV.val (Value.bool false)))
                                                                                  (needB
                                                                                    (sz (rAdd (rT x_1) (rT x_2)).fst.fst && sz (rAdd (rT x_1) (rT x_2)).fst.snd && sz (rT x_2).fst && sz (rT x_2).snd)
                                                                                    (needB
                                                                                      (sz (rDiv (rT x_1) (rT x_2)).fst.fst && sz (rDiv (rT x_1) (rT x_2)).fst.snd && sz (rT x_2).fst && sz (rT x_2).snd)
                                                                                      (K
                                                                                        (SV.val
                                                                                          (Value.bool
                                                                                            (true &&
                                                                                                ((rAdd (rT x_1) (rT x_2)).snd != 0 || (rSub (rAdd (rT x_1) (rT x_2)).fst (rT x_2)).snd != 0 ||
                                                                                                  seq (rSub (rAdd (rT x_1) (rT x_2)).fst (rT x_2)).fst.fst (rT x_1).fst &&
                                                                                                    (seq (rSub (rAdd (rT x_1) (rT x_2)).fst (rT x_2)).fst.snd (rT x_1).snd && true)) &&
                                                                                              ((rDiv (rT x_1) (rT x_2)).snd != 0 || (rMul (rDiv (rT x_1) (rT x_2)).fst (rT x_2)).snd != 0 ||
                                                                                                seq (rMul (rDiv (rT x_1) (rT x_2)).fst (rT x_2)).fst.fst (rT x_1).fst &&
                                                                                                  (seq (rMul (rDiv (rT x_1) (rT x_2)).fst (rT x_2)).fst.snd (rT x_1).snd &&
                                                                                                    true))))))))))))))))))))))))))))))))))))))) := by kernel_rfl
set_option maxRecDepth 100000 in
theorem fieldF_vc (x0 x1 x2 x3 y0 y1 y2 y3 z0 z1 : Int) (K : SV → Prop) :
    runS (fun _ _ => none) 4 8 [sv4 x0 x1 x2 x3, sv4 y0 y1 y2 y3, sv2 z0 z1, .val (.bool false)] K = (
needB (i64 x0 && i64 x1)
  (∀ (x : Rat),
    x.num.natAbs < 1000 ∧ x.den < 1000 →
      needB (i64 y0 && i64 y1)
        (∀ (x_1 : Rat),
          x_1.num.natAbs < 1000 ∧ x_1.den < 1000 →
            needB (i64 z0 && i64 z1)
              (∀ (x_2 : Rat),
                x_2.num.natAbs < 1000 ∧ x_2.den < 1000 →
                  needB (sz (rT x).fst && sz (rT x).snd && sz (rT x_1).fst && sz (rT x_1).snd)
                    (needB (sz (rT x).fst && sz (rT x).snd && sz (rT x_1).fst && sz (rT x_1).snd)
                      (needB (sz (rT x).fst && sz (rT x).snd && sz (rT x_1).fst && sz (rT x_1).snd)
                        (needB (sz (rT x).fst && sz (rT x).snd && sz (rT x_1).fst && sz (rT x_1).snd)
                          (needB (sz (rT x_1).fst && sz (rT x_1).snd && sz (rT x).fst && sz (rT x).snd)
                            (needB (sz (rT x_1).fst && sz (rT x_1).snd && sz (rT x).fst && sz (rT x).snd)
                              (needB (sz (rT x_1).fst && sz (rT x_1).snd && sz (rT x).fst && sz (rT x).snd)
                                (needB (sz (rT x_1).fst && sz (rT x_1).snd && sz (rT x).fst && sz (rT x).snd)
                                  (branch
                                    (!(seq (rAdd (rT x) (rT x_1)).fst.fst (rAdd (rT x_1) (rT x)).fst.fst && (seq (rAdd (rT x) (rT x_1)).fst.snd (rAdd (rT x_1) (rT x)).fst.snd && true)) ||
                                            !(seq (rMul (rT x) (rT x_1)).fst.fst (rMul (rT x_1) (rT x)).fst.fst && (seq (rMul (rT x) (rT x_1)).fst.snd (rMul (rT x_1) (rT x)).fst.snd && true)) ||
                                          (rAdd (rT x) (rT x_1)).snd != (rAdd (rT x_1) (rT x)).snd ||
                                        (rMul (rT x) (rT x_1)).snd != (rMul (rT x_1) (rT x)).snd ||
                                      true && ((rAdd (rT x) (rT x_1)).snd != 0 || (rMul (rT x) (rT x_1)).snd != 0))
                                    (K (SV.val (Value.bool false)))
                                    (needB (sz (rT x_1).fst && sz (rT x_1).snd && sz (rT x_2).fst && sz (rT x_2).snd)
                                      (needB (sz (rT x_1).fst && sz (rT x_1).snd && sz (rT x_2).fst && sz (rT x_2).snd)
                                        (needB (sz (rT x_1).fst && sz (rT x_1).snd && sz (rT x_2).fst && sz (rT x_2).snd)
                                          (needB (sz (rT x_1).fst && sz (rT x_1).snd && sz (rT x_2).fst && sz (rT x_2).snd)
                                            (needB (sz (rAdd (rT x) (rT x_1)).fst.fst && sz (rAdd (rT x) (rT x_1)).fst.snd && sz (rT x_2).fst && sz (rT x_2).snd)
                                              (needB (sz (rAdd (rT x) (rT x_1)).fst.fst && sz (rAdd (rT x) (rT x_1)).fst.snd && sz (rT x_2).fst && sz (rT x_2).snd)
                                                (needB (sz (rAdd (rT x) (rT x_1)).fst.fst && sz (rAdd (rT x) (rT x_1)).fst.snd && sz (rT x_2).fst && sz (rT x_2).snd)
                                                  (needB (sz (rAdd (rT x) (rT x_1)).fst.fst && sz (rAdd (rT x) (rT x_1)).fst.snd && sz (rT x_2).fst && sz (rT x_2).snd)
                                                    (needB (sz (rT x).fst && sz (rT x).snd && sz (rAdd (rT x_1) (rT x_2)).fst.fst && sz (rAdd (rT x_1) (rT x_2)).fst.snd)
                                                      (branch
                                                        ((rAdd (rT x) (rT x_1)).snd == 0 && (rAdd (rT x_1) (rT x_2)).snd == 0 && (rAdd (rAdd (rT x) (rT x_1)).fst (rT x_2)).snd == 0 &&
                                                            (rAdd (rT x) (rAdd (rT x_1) (rT x_2)).fst).snd == 0 &&
                                                          !(seq (rAdd (rAdd (rT x) (rT x_1)).fst (rT x_2)).fst.fst (rAdd (rT x) (rAdd (rT x_1) (rT x_2)).fst).fst.fst &&
                                                              (seq (rAdd (rAdd (rT x) (rT x_1)).fst (rT x_2)).fst.snd (rAdd (rT x) (rAdd (rT x_1) (rT x_2)).fst).fst.snd && true)))
                                                        (K (SV.val (Value.bool false)))
                                                        (needB (sz (rT x).fst && sz (rT x).snd && sz (rMul (rT x_1) (rT x_2)).fst.fst && sz (rMul (rT x_1) (rT x_2)).fst.snd)
                                                          (needB (sz (rMul (rT x) (rT x_1)).fst.fst && sz (rMul (rT x) (rT x_1)).fst.snd && sz (rT x_2).fst && sz (rT x_2).snd)
                                                            (branch
                                                              ((rMul (rT x) (rT x_1)).snd == 0 && (rMul (rT x_1) (rT x_2)).snd == 0 && (rMul (rT x) (rMul (rT x_1) (rT x_2)).fst).snd == 0 &&
                                                                  (rMul (rMul (rT x) (rT x_1)).fst (rT x_2)).snd == 0 &&
                                                                !(seq (rMul (rT x) (rMul (rT x_1) (rT x_2)).fst).fst.fst (rMul (rMul (rT x) (rT x_1)).fst (rT x_2)).fst.fst &&
                                                                    (seq (rMul (rT x) (rMul (rT x_1) (rT x_2)).fst).fst.snd (rMul (rMul (rT x) (rT x_1)).fst (rT x_2)).fst.snd && true)))
                                                              (K (SV.val (Value.bool false)))
                                                              (needB (sz (rT x).fst && sz (rT x).snd && sz (rT x_2).fst && sz (rT x_2).snd)
                                                                (needB
                                                                  (sz (rMul (rT x) (rT x_2)).fst.fst && sz (rMul (rT x) (rT x_2)).fst.snd && sz (rMul (rT x_1) (rT x_2)).fst.fst &&
                                                                    sz (rMul (rT x_1) (rT x_2)).fst.snd)
                                                                  (needB (sz (rAdd (rT x) (rT x_1)).fst.fst && sz (rAdd (rT x) (rT x_1)).fst.snd && sz (rT x_2).fst && sz (rT x_2).snd)
                                                                    (branch
                                                                      ((rAdd (rT x) (rT x_1)).snd == 0 && (rMul (rT x) (rT x_2)).snd == 0 && (rMul (rT x_1) (rT x_2)).snd == 0 &&
                                                                            (rAdd (rMul (rT x) (rT x_2)).fst (rMul (rT x_1) (rT x_2)).fst).snd == 0 &&
                                                                          (rMul (rAdd (rT x) (rT x_1)).fst (rT x_2)).snd == 0 &&
                                                                        !(seq (rAdd (rMul (rT x) (rT x_2)).fst (rMul (rT x_1) (rT x_2)).fst).fst.fst
                                                                              (rMul (rAdd (rT x) (rT x_1)).fst (rT x_2)).fst.fst &&
                                                                            (seq (rAdd (rMul (rT x) (rT x_2)).fst (rMul (rT x_1) (rT x_2)).fst).fst.snd
                                                                                (rMul (rAdd (rT x) (rT x_1)).fst (rT x_2)).fst.snd &&
                                                                              true)))
                                                                      (K (SV.val (Value.bool false)))
                                                                      (needB (sz (rAdd (rT x) (rT x_1)).fst.fst && sz (rAdd (rT x) (rT x_1)).fst.snd && sz (rT x_1).fst && sz (rT x_1).snd)
                                                                        (needB (sz (rDiv (rT x) (rT x_1)).fst.fst && sz (rDiv (rT x) (rT x_1)).fst.snd && sz (rT x_1).fst && sz (rT x_1).snd)
                                                                          (K
                                                                            (SV.val
                                                                              (Value.bool
                                                                                (true &&
                                                                                    ((rAdd (rT x) (rT x_1)).snd != 0 || (rSub (rAdd (rT x) (rT x_1)).fst (rT x_1)).snd != 0 ||
                                                                                      seq (rSub (rAdd (rT x) (rT x_1)).fst (rT x_1)).fst.fst (rT x).fst &&
                                                                                        (seq (rSub (rAdd (rT x) (rT x_1)).fst (rT x_1)).fst.snd (rT x).snd && true)) &&
                                                                                  ((rDiv (rT x) (rT x_1)).snd != 0 || (rMul (rDiv (rT x) (rT x_1)).fst (rT x_1)).snd != 0 ||
                                                                                    seq (rMul (rDiv (rT x) (rT x_1)).fst (rT x_1)).fst.fst (rT x).fst &&
                                                                                      (seq (rMul (rDiv (rT x) (rT x_1)).fst (rT x_1)).fst.snd (rT x).snd && true))))))))))))))))))))))))))))))))))))) := by kernel_rfl

/-- What is known of the two products and sums. -/
theorem field_tests {a b c : RS} :
    ((rAdd a b).2 = 0 ∧ (rAdd b c).2 = 0 ∧ (rAdd (rAdd a b).1 c).2 = 0 ∧ (rAdd a (rAdd b c).1).2 = 0 → (rAdd (rAdd a b).1 c).1 = (rAdd a (rAdd b c).1).1) ∧
    ((rMul a b).2 = 0 ∧ (rMul b c).2 = 0 ∧ (rMul a (rMul b c).1).2 = 0 ∧ (rMul (rMul a b).1 c).2 = 0 → (rMul a (rMul b c).1).1 = (rMul (rMul a b).1 c).1) ∧
    ((rAdd a b).2 = 0 ∧ (rMul a c).2 = 0 ∧ (rMul b c).2 = 0 ∧ (rAdd (rMul a c).1 (rMul b c).1).2 = 0 ∧ (rMul (rAdd a b).1 c).2 = 0 → (rAdd (rMul a c).1 (rMul b c).1).1 = (rMul (rAdd a b).1 c).1) ∧
    ((rAdd a b).2 = 0 ∧ (rSub (rAdd a b).1 b).2 = 0 → (rSub (rAdd a b).1 b).1 = a) ∧ ((rDiv a b).2 = 0 ∧ (rMul (rDiv a b).1 b).2 = 0 → (rMul (rDiv a b).1 b).1 = a) :=
  ⟨fun ⟨h1, h2, h3, h4⟩ => law_assoc h1 h2 h3 h4, fun ⟨h1, h2, h3, h4⟩ => law_massoc h1 h2 h4 h3, fun ⟨h1, h2, h3, h4, h5⟩ => law_dist h1 h2 h3 h4 h5, fun ⟨h1, h2⟩ => law_back h1 h2, fun ⟨h1, h2⟩ => law_again h1 h2⟩

set_option maxRecDepth 100000 in
theorem field_any (x0 x1 x2 x3 y0 y1 y2 y3 z0 z1 : Int) (long : Bool) (x0l : -9223372036854775808 ≤ x0) (x0h : x0 ≤ 9223372036854775807) (x1l : -9223372036854775808 ≤ x1) (x1h : x1 ≤ 9223372036854775807) (x2l : -9223372036854775808 ≤ x2) (x2h : x2 ≤ 9223372036854775807) (x3l : -9223372036854775808 ≤ x3) (x3h : x3 ≤ 9223372036854775807) (y0l : -9223372036854775808 ≤ y0) (y0h : y0 ≤ 9223372036854775807) (y1l : -9223372036854775808 ≤ y1) (y1h : y1 ≤ 9223372036854775807) (y2l : -9223372036854775808 ≤ y2) (y2h : y2 ≤ 9223372036854775807) (y3l : -9223372036854775808 ≤ y3) (y3h : y3 ≤ 9223372036854775807) (z0l : -9223372036854775808 ≤ z0) (z0h : z0 ≤ 9223372036854775807) (z1l : -9223372036854775808 ≤ z1) (z1h : z1 ≤ 9223372036854775807) (w : World) (hg : Glob w) :
    Calls Tryz.prog 8 #[.agg #[.int .i64 x0, .int .i64 x1, .int .i64 x2, .int .i64 x3], .agg #[.int .i64 y0, .int .i64 y1, .int .i64 y2, .int .i64 y3], .agg #[.int .i64 z0, .int .i64 z1], .bool long] w fun e w' => e = .returned (.bool true) ∧ Below w.heap.size w w' := by
  have I : ∀ {n : Int}, -9223372036854775808 ≤ n → n ≤ 9223372036854775807 → i64 n = true := fun a b => i64_iff.2 ⟨a, b⟩
  cases long
  · refine law_run hg (ann := fun _ _ => none) (n := 4) (args := [sv4 x0 x1 x2 x3, sv4 y0 y1 y2 y3, sv2 z0 z1, .val (.bool false)]) rfl ?_
    rw [fieldF_vc]
    simp only [I x0l x0h, I x1l x1h, I x2l x2h, I x3l x3h, I y0l y0h, I y1l y1h, I y2l y2h, I y3l y3h, I z0l z0h, I z1l z1h, Bool.and_self, needB_true]
    intro p hp q hq r hr
    replace hp : Few 3 p := hp
    replace hq : Few 3 q := hq
    replace hr : Few 3 r := hr
    have sa := sz_few hp (by decide)
    have sb := sz_few hq (by decide)
    have sc := sz_few hr (by decide)
    have o1 := FewR.add (hp.rT (by decide)) (hq.rT (by decide)) (by decide)
    have o2 := FewR.mul (hp.rT (by decide)) (hq.rT (by decide)) (by decide)
    generalize rT p = a at *
    generalize rT q = b at *
    generalize rT r = c at *
    obtain ⟨t1, t2, t3, t4, t5⟩ := @field_tests a b c
    simp only [sa.1, sa.2, sb.1, sb.2, sc.1, sc.2, (rSub_sz _ _).1, (rSub_sz _ _).2, (rAdd_sz _ _).1, (rAdd_sz _ _).2, (rMul_sz _ _).1, (rMul_sz _ _).2, (rDiv_sz _ _).1, (rDiv_sz _ _).2, Bool.and_self, Bool.true_and, needB_true, seq2]
    rw [rAdd_comm b a, rMul_comm b a]
    simp only [o1, o2] at t1 t2 t3 t4 t5 ⊢
    simp only [branch_iff, yes_iff]
    simp
    refine ⟨fun h1 h2 h3 => t1 ⟨trivial, h1, h2, h3⟩, fun _ => ⟨fun h1 h2 h3 => t2 ⟨trivial, h1, h2, h3⟩, fun _ => ⟨fun h1 h2 h3 h4 => t3 ⟨trivial, h1, h2, h3, h4⟩, fun _ => ⟨?_, ?_⟩⟩⟩⟩
    · by_cases h : (rSub (rAdd a b).1 b).2 = 0
      · exact .inr (t4 ⟨trivial, h⟩)
      · exact .inl h
    · by_cases h1 : (rDiv a b).2 = 0
      · by_cases h2 : (rMul (rDiv a b).1 b).2 = 0
        · exact .inr (t5 ⟨h1, h2⟩)
        · exact .inl (.inr h2)
      · exact .inl (.inl h1)
  · refine law_run hg (ann := fun _ _ => none) (n := 4) (args := [sv4 x0 x1 x2 x3, sv4 y0 y1 y2 y3, sv2 z0 z1, .val (.bool true)]) rfl ?_
    rw [fieldT_vc]
    simp only [I x0l x0h, I x1l x1h, I x2l x2h, I x3l x3h, I y0l y0h, I y1l y1h, I y2l y2h, I y3l y3h, I z0l z0h, I z1l z1h, Bool.and_self, needB_true]
    intro _ _ _ _ r hr p hp q hq
    replace hp : Few 100 p := hp
    replace hq : Few 100 q := hq
    replace hr : Few 3 r := hr
    have sa := sz_few hp (by decide)
    have sb := sz_few hq (by decide)
    have sc := sz_few hr (by decide)
    generalize rT p = a at *
    generalize rT q = b at *
    generalize rT r = c at *
    obtain ⟨t1, t2, t3, t4, t5⟩ := @field_tests a b c
    simp only [sa.1, sa.2, sb.1, sb.2, sc.1, sc.2, (rSub_sz _ _).1, (rSub_sz _ _).2, (rAdd_sz _ _).1, (rAdd_sz _ _).2, (rMul_sz _ _).1, (rMul_sz _ _).2, (rDiv_sz _ _).1, (rDiv_sz _ _).2, Bool.and_self, Bool.true_and, needB_true, seq2]
    rw [rAdd_comm b a, rMul_comm b a]
    simp only [branch_iff, yes_iff]
    simp
    refine ⟨fun h0 h1 h2 h3 => t1 ⟨h0, h1, h2, h3⟩, fun _ => ⟨fun h0 h1 h2 h3 => t2 ⟨h0, h1, h2, h3⟩, fun _ => ⟨fun h0 h1 h2 h3 h4 => t3 ⟨h0, h1, h2, h3, h4⟩, fun _ => ⟨?_, ?_⟩⟩⟩⟩
    · by_cases h0 : (rAdd a b).2 = 0
      · by_cases h : (rSub (rAdd a b).1 b).2 = 0
        · exact .inr (t4 ⟨h0, h⟩)
        · exact .inl (.inr h)
      · exact .inl (.inl h0)
    · by_cases h1 : (rDiv a b).2 = 0
      · by_cases h2 : (rMul (rDiv a b).1 b).2 = 0
        · exact .inr (t5 ⟨h1, h2⟩)
        · exact .inl (.inr h2)
      · exact .inl (.inl h1)
end Go.Proofs.YtgeoidnleagloaaGreatDoor
