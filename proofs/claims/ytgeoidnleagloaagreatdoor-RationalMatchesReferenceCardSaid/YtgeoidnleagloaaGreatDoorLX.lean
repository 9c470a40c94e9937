/- The law RationalMatchesReference: what its run comes to. -/
import Derived.Test.YtgeoidnleagloaaGreatDoorLXa
set_option linter.unusedVariables false
set_option linter.unusedSimpArgs false
namespace Go.Proofs.YtgeoidnleagloaaGreatDoor
open Go Go.RowKit Go.Sy Yk
set_option maxRecDepth 100000 in
theorem match_vc (A : Nat → RS) (xa xb ya yb : ByteArray) (l0 l1 l2 l3 m0 m1 m2 m3 s0 s1 n d p : Int) (K : SV → Prop) : runR (annM A 56) 4 6 [.agg [.val (.string xa), .val (.string xb)], .agg [.val (.string ya), .val (.string yb)], sv4 l0 l1 l2 l3, sv4 m0 m1 m2 m3, sv2 s0 s1, svI n, svI d, svI p] K = (
needB (decide (0 ≤ if 210 < (↑xa.size : Int) then 210 else (↑xa.size : Int)) && decide ((if 210 < (↑xa.size : Int) then 210 else (↑xa.size : Int)) ≤ (↑xa.size : Int)))
(needB (decide (0 ≤ if 210 < (↑xb.size : Int) then 210 else (↑xb.size : Int)) && decide ((if 210 < (↑xb.size : Int) then 210 else (↑xb.size : Int)) ≤ (↑xb.size : Int)))
(needB (decide (0 ≤ if 210 < (↑ya.size : Int) then 210 else (↑ya.size : Int)) && decide ((if 210 < (↑ya.size : Int) then 210 else (↑ya.size : Int)) ≤ (↑ya.size : Int)))
(needB (decide (0 ≤ if 210 < (↑yb.size : Int) then 210 else (↑yb.size : Int)) && decide ((if 210 < (↑yb.size : Int) then 210 else (↑yb.size : Int)) ≤ (↑yb.size : Int)))
(needB (i64 l0 && i64 l1 && i64 l2 && i64 l3)
(needB (i64 m0 && i64 m1 && i64 m2 && i64 m3)
(needB (i64 s0 && i64 s1)
(∃ z0 : Int,
(((0 ≤ z0) ∧
(z0 ≤ 5)) ∧
(((TV.v (SV.val (Value.int IntKind.i64 0)) = TV.v (SV.val (Value.int IntKind.i64 z0))) ∧
((TV.v (SV.val (Value.int IntKind.i64 n)) = TV.v (SV.val (Value.int IntKind.i64 n))) ∧
((TV.v (SV.val (Value.int IntKind.i64 d)) = TV.v (SV.val (Value.int IntKind.i64 d))) ∧
((TV.v (SV.val (Value.int IntKind.i64 p)) = TV.v (SV.val (Value.int IntKind.i64 p))) ∧
((TV.v (SV.val (Value.bool true)) = TV.v (SV.val (Value.bool true))) ∧
((TV.v (SV.slc (0 + 1 + 1 + 1 + 1 + 1 + 1 + 1 + 1 + 1 + 1 + 1 + 16 + 1 + 1 + 1 + 1 + 16 + 1 + 8) 0 5) = TV.v (SV.slc (0 + 1 + 1 + 1 + 1 + 1 + 1 + 1 + 1 + 1 + 1 + 1 + 16 + 1 + 1 + 1 + 1 + 16 + 1 + 8) 0 5)) ∧
(True))))))) ∧
(((([SV.val (Value.string (smallF s0 s1).fst), SV.val (Value.string (smallF s0 s1).snd)] = [SV.val (Value.string (A 4).fst), SV.val (Value.string (A 4).snd)]) ∧
(([SV.val (Value.string (longF m0 m1 m2 m3).fst), SV.val (Value.string (longF m0 m1 m2 m3).snd)] = [SV.val (Value.string (A 3).fst), SV.val (Value.string (A 3).snd)]) ∧
(([SV.val (Value.string (longF l0 l1 l2 l3).fst), SV.val (Value.string (longF l0 l1 l2 l3).snd)] = [SV.val (Value.string (A 2).fst), SV.val (Value.string (A 2).snd)]) ∧
(([SV.val (Value.string (ya.extract 0 (if 210 < (↑ya.size : Int) then 210 else (↑ya.size : Int)).toNat)), SV.val (Value.string (yb.extract 0 (if 210 < (↑yb.size : Int) then 210 else (↑yb.size : Int)).toNat))] = [SV.val (Value.string (A 1).fst), SV.val (Value.string (A 1).snd)]) ∧
(([SV.val (Value.string (xa.extract 0 (if 210 < (↑xa.size : Int) then 210 else (↑xa.size : Int)).toNat)), SV.val (Value.string (xb.extract 0 (if 210 < (↑xb.size : Int) then 210 else (↑xb.size : Int)).toNat))] = [SV.val (Value.string (A 0).fst), SV.val (Value.string (A 0).snd)]) ∧
(True)))))) ∧
(True)) ∧
(∀ z1 : Int,
(((0 ≤ z1) ∧
(z1 ≤ 5)) →
(branch (decide (z1 < 5))
(∃ z2 : Int,
(((0 ≤ z2) ∧
(z2 ≤ 5)) ∧
(((TV.v (SV.val (Value.int IntKind.i64 0)) = TV.v (SV.val (Value.int IntKind.i64 z2))) ∧
((TV.v (SV.val (Value.int IntKind.i64 n)) = TV.v (SV.val (Value.int IntKind.i64 n))) ∧
((TV.v (SV.val (Value.int IntKind.i64 d)) = TV.v (SV.val (Value.int IntKind.i64 d))) ∧
((TV.v (SV.val (Value.int IntKind.i64 p)) = TV.v (SV.val (Value.int IntKind.i64 p))) ∧
((TV.v (SV.val (Value.bool true)) = TV.v (SV.val (Value.bool true))) ∧
((TV.v (SV.slc (0 + 1 + 1 + 1 + 1 + 1 + 1 + 1 + 1 + 1 + 1 + 1 + 16 + 1 + 1 + 1 + 1 + 16 + 1 + 8) 0 5) = TV.v (SV.slc (0 + 1 + 1 + 1 + 1 + 1 + 1 + 1 + 1 + 1 + 1 + 1 + 16 + 1 + 1 + 1 + 1 + 16 + 1 + 8) 0 5)) ∧
((TV.v (SV.val (Value.int IntKind.i64 z1)) = TV.v (SV.val (Value.int IntKind.i64 z1))) ∧
(True)))))))) ∧
(((([SV.val (Value.string (A 4).fst), SV.val (Value.string (A 4).snd)] = [SV.val (Value.string (A 4).fst), SV.val (Value.string (A 4).snd)]) ∧
(([SV.val (Value.string (A 3).fst), SV.val (Value.string (A 3).snd)] = [SV.val (Value.string (A 3).fst), SV.val (Value.string (A 3).snd)]) ∧
(([SV.val (Value.string (A 2).fst), SV.val (Value.string (A 2).snd)] = [SV.val (Value.string (A 2).fst), SV.val (Value.string (A 2).snd)]) ∧
(([SV.val (Value.string (A 1).fst), SV.val (Value.string (A 1).snd)] = [SV.val (Value.string (A 1).fst), SV.val (Value.string (A 1).snd)]) ∧
(([SV.val (Value.string (A 0).fst), SV.val (Value.string (A 0).snd)] = [SV.val (Value.string (A 0).fst), SV.val (Value.string (A 0).snd)]) ∧
(True)))))) ∧
(True)) ∧
(∀ z3 : Int,
(((0 ≤ z3) ∧
(z3 ≤ 5)) →
(branch (decide (z3 < 5))
(needB (decide (0 ≤ z1) && decide (z1 < 5))
(needB (decide (0 + z1.toNat < 5))
(needB (decide (0 ≤ z3) && decide (z3 < 5))
(needB (decide (0 + z3.toNat < 5))
(needB (sz (A (0 + z1.toNat)).fst && sz (A (0 + z1.toNat)).snd && sz (A (0 + z3.toNat)).fst && sz (A (0 + z3.toNat)).snd)
(needB (sz (A (0 + z1.toNat)).fst && sz (A (0 + z1.toNat)).snd && sz (A (0 + z3.toNat)).fst && sz (A (0 + z3.toNat)).snd)
(needB (sz (A (0 + z1.toNat)).fst && sz (A (0 + z1.toNat)).snd && sz (A (0 + z3.toNat)).fst && sz (A (0 + z3.toNat)).snd)
(needB (sz (A (0 + z1.toNat)).fst && sz (A (0 + z1.toNat)).snd && sz (A (0 + z3.toNat)).fst && sz (A (0 + z3.toNat)).snd)
(needB (sz (A (0 + z1.toNat)).fst && sz (A (0 + z1.toNat)).snd && sz (A (0 + z3.toNat)).fst && sz (A (0 + z3.toNat)).snd)
(needB (sz (A (0 + z1.toNat)).fst && sz (A (0 + z1.toNat)).snd && sz (A (0 + z3.toNat)).fst && sz (A (0 + z3.toNat)).snd)
(needB (sz (A (0 + z1.toNat)).fst && sz (A (0 + z1.toNat)).snd && sz (A (0 + z3.toNat)).fst && sz (A (0 + z3.toNat)).snd)
(needB (sz (A (0 + z1.toNat)).fst && sz (A (0 + z1.toNat)).snd && sz (A (0 + z3.toNat)).fst && sz (A (0 + z3.toNat)).snd)
(needB (impB (!(!(seq (rAdd (A (0 + z1.toNat)) (A (0 + z3.toNat))).fst.fst (rAdd (A (0 + z1.toNat)) (A (0 + z3.toNat))).fst.fst && (seq (rAdd (A (0 + z1.toNat)) (A (0 + z3.toNat))).fst.snd (rAdd (A (0 + z1.toNat)) (A (0 + z3.toNat))).fst.snd && true) && (seq (rSub (A (0 + z1.toNat)) (A (0 + z3.toNat))).fst.fst (rSub (A (0 + z1.toNat)) (A (0 + z3.toNat))).fst.fst && (seq (rSub (A (0 + z1.toNat)) (A (0 + z3.toNat))).fst.snd (rSub (A (0 + z1.toNat)) (A (0 + z3.toNat))).fst.snd && true) && (seq (rMul (A (0 + z1.toNat)) (A (0 + z3.toNat))).fst.fst (rMul (A (0 + z1.toNat)) (A (0 + z3.toNat))).fst.fst && (seq (rMul (A (0 + z1.toNat)) (A (0 + z3.toNat))).fst.snd (rMul (A (0 + z1.toNat)) (A (0 + z3.toNat))).fst.snd && true) && (seq (rDiv (A (0 + z1.toNat)) (A (0 + z3.toNat))).fst.fst (rDiv (A (0 + z1.toNat)) (A (0 + z3.toNat))).fst.fst && (seq (rDiv (A (0 + z1.toNat)) (A (0 + z3.toNat))).fst.snd (rDiv (A (0 + z1.toNat)) (A (0 + z3.toNat))).fst.snd && true) && true)))) || !((rAdd (A (0 + z1.toNat)) (A (0 + z3.toNat))).snd == (rAdd (A (0 + z1.toNat)) (A (0 + z3.toNat))).snd && ((rSub (A (0 + z1.toNat)) (A (0 + z3.toNat))).snd == (rSub (A (0 + z1.toNat)) (A (0 + z3.toNat))).snd && ((rMul (A (0 + z1.toNat)) (A (0 + z3.toNat))).snd == (rMul (A (0 + z1.toNat)) (A (0 + z3.toNat))).snd && ((rDiv (A (0 + z1.toNat)) (A (0 + z3.toNat))).snd == (rDiv (A (0 + z1.toNat)) (A (0 + z3.toNat))).snd && true)))))) (sz (A (0 + z1.toNat)).fst && sz (A (0 + z1.toNat)).snd && sz (A (0 + z3.toNat)).fst && sz (A (0 + z3.toNat)).snd))
(needB (impB (!(!(seq (rAdd (A (0 + z1.toNat)) (A (0 + z3.toNat))).fst.fst (rAdd (A (0 + z1.toNat)) (A (0 + z3.toNat))).fst.fst && (seq (rAdd (A (0 + z1.toNat)) (A (0 + z3.toNat))).fst.snd (rAdd (A (0 + z1.toNat)) (A (0 + z3.toNat))).fst.snd && true) && (seq (rSub (A (0 + z1.toNat)) (A (0 + z3.toNat))).fst.fst (rSub (A (0 + z1.toNat)) (A (0 + z3.toNat))).fst.fst && (seq (rSub (A (0 + z1.toNat)) (A (0 + z3.toNat))).fst.snd (rSub (A (0 + z1.toNat)) (A (0 + z3.toNat))).fst.snd && true) && (seq (rMul (A (0 + z1.toNat)) (A (0 + z3.toNat))).fst.fst (rMul (A (0 + z1.toNat)) (A (0 + z3.toNat))).fst.fst && (seq (rMul (A (0 + z1.toNat)) (A (0 + z3.toNat))).fst.snd (rMul (A (0 + z1.toNat)) (A (0 + z3.toNat))).fst.snd && true) && (seq (rDiv (A (0 + z1.toNat)) (A (0 + z3.toNat))).fst.fst (rDiv (A (0 + z1.toNat)) (A (0 + z3.toNat))).fst.fst && (seq (rDiv (A (0 + z1.toNat)) (A (0 + z3.toNat))).fst.snd (rDiv (A (0 + z1.toNat)) (A (0 + z3.toNat))).fst.snd && true) && true)))) || !((rAdd (A (0 + z1.toNat)) (A (0 + z3.toNat))).snd == (rAdd (A (0 + z1.toNat)) (A (0 + z3.toNat))).snd && ((rSub (A (0 + z1.toNat)) (A (0 + z3.toNat))).snd == (rSub (A (0 + z1.toNat)) (A (0 + z3.toNat))).snd && ((rMul (A (0 + z1.toNat)) (A (0 + z3.toNat))).snd == (rMul (A (0 + z1.toNat)) (A (0 + z3.toNat))).snd && ((rDiv (A (0 + z1.toNat)) (A (0 + z3.toNat))).snd == (rDiv (A (0 + z1.toNat)) (A (0 + z3.toNat))).snd && true)))))) (sz (A (0 + z1.toNat)).fst && sz (A (0 + z1.toNat)).snd && sz (A (0 + z3.toNat)).fst && sz (A (0 + z3.toNat)).snd))
(branch (!(seq (rAdd (A (0 + z1.toNat)) (A (0 + z3.toNat))).fst.fst (rAdd (A (0 + z1.toNat)) (A (0 + z3.toNat))).fst.fst && (seq (rAdd (A (0 + z1.toNat)) (A (0 + z3.toNat))).fst.snd (rAdd (A (0 + z1.toNat)) (A (0 + z3.toNat))).fst.snd && true) && (seq (rSub (A (0 + z1.toNat)) (A (0 + z3.toNat))).fst.fst (rSub (A (0 + z1.toNat)) (A (0 + z3.toNat))).fst.fst && (seq (rSub (A (0 + z1.toNat)) (A (0 + z3.toNat))).fst.snd (rSub (A (0 + z1.toNat)) (A (0 + z3.toNat))).fst.snd && true) && (seq (rMul (A (0 + z1.toNat)) (A (0 + z3.toNat))).fst.fst (rMul (A (0 + z1.toNat)) (A (0 + z3.toNat))).fst.fst && (seq (rMul (A (0 + z1.toNat)) (A (0 + z3.toNat))).fst.snd (rMul (A (0 + z1.toNat)) (A (0 + z3.toNat))).fst.snd && true) && (seq (rDiv (A (0 + z1.toNat)) (A (0 + z3.toNat))).fst.fst (rDiv (A (0 + z1.toNat)) (A (0 + z3.toNat))).fst.fst && (seq (rDiv (A (0 + z1.toNat)) (A (0 + z3.toNat))).fst.snd (rDiv (A (0 + z1.toNat)) (A (0 + z3.toNat))).fst.snd && true) && true)))) || !((rAdd (A (0 + z1.toNat)) (A (0 + z3.toNat))).snd == (rAdd (A (0 + z1.toNat)) (A (0 + z3.toNat))).snd && ((rSub (A (0 + z1.toNat)) (A (0 + z3.toNat))).snd == (rSub (A (0 + z1.toNat)) (A (0 + z3.toNat))).snd && ((rMul (A (0 + z1.toNat)) (A (0 + z3.toNat))).snd == (rMul (A (0 + z1.toNat)) (A (0 + z3.toNat))).snd && ((rDiv (A (0 + z1.toNat)) (A (0 + z3.toNat))).snd == (rDiv (A (0 + z1.toNat)) (A (0 + z3.toNat))).snd && true)))) || rCmp (A (0 + z1.toNat)) (A (0 + z3.toNat)) != rCmp (A (0 + z1.toNat)) (A (0 + z3.toNat)))
(K (SV.val (Value.bool false)))
(needB (inR IntKind.i64 (z3 + 1))
(∃ z4 : Int,
(((0 ≤ z4) ∧
(z4 ≤ 5)) ∧
(((5 - z4).toNat < (5 - z3).toNat) ∧
(((TV.v (SV.val (Value.int IntKind.i64 (z3 + 1))) = TV.v (SV.val (Value.int IntKind.i64 z4))) ∧
((TV.v (SV.val (Value.int IntKind.i64 n)) = TV.v (SV.val (Value.int IntKind.i64 n))) ∧
((TV.v (SV.val (Value.int IntKind.i64 d)) = TV.v (SV.val (Value.int IntKind.i64 d))) ∧
((TV.v (SV.val (Value.int IntKind.i64 p)) = TV.v (SV.val (Value.int IntKind.i64 p))) ∧
((TV.v (SV.val (Value.bool true)) = TV.v (SV.val (Value.bool true))) ∧
((TV.v (SV.slc (0 + 1 + 1 + 1 + 1 + 1 + 1 + 1 + 1 + 1 + 1 + 1 + 16 + 1 + 1 + 1 + 1 + 16 + 1 + 8) 0 5) = TV.v (SV.slc (0 + 1 + 1 + 1 + 1 + 1 + 1 + 1 + 1 + 1 + 1 + 1 + 16 + 1 + 1 + 1 + 1 + 16 + 1 + 8) 0 5)) ∧
((TV.v (SV.val (Value.int IntKind.i64 z1)) = TV.v (SV.val (Value.int IntKind.i64 z1))) ∧
(True)))))))) ∧
(((([SV.val (Value.string (A 4).fst), SV.val (Value.string (A 4).snd)] = [SV.val (Value.string (A 4).fst), SV.val (Value.string (A 4).snd)]) ∧
(([SV.val (Value.string (A 3).fst), SV.val (Value.string (A 3).snd)] = [SV.val (Value.string (A 3).fst), SV.val (Value.string (A 3).snd)]) ∧
(([SV.val (Value.string (A 2).fst), SV.val (Value.string (A 2).snd)] = [SV.val (Value.string (A 2).fst), SV.val (Value.string (A 2).snd)]) ∧
(([SV.val (Value.string (A 1).fst), SV.val (Value.string (A 1).snd)] = [SV.val (Value.string (A 1).fst), SV.val (Value.string (A 1).snd)]) ∧
(([SV.val (Value.string (A 0).fst), SV.val (Value.string (A 0).snd)] = [SV.val (Value.string (A 0).fst), SV.val (Value.string (A 0).snd)]) ∧
(True)))))) ∧
(True)) ∧
(True))))))))))))))))))))))
(needB (i64 p && true)
(needB (decide (0 ≤ z1) && decide (z1 < 5))
(needB (decide (0 + z1.toNat < 5))
(needB (sz (A (0 + z1.toNat)).fst && sz (A (0 + z1.toNat)).snd)
(needB (decide (0 ≤ z1) && decide (z1 < 5))
(needB (decide (0 + z1.toNat < 5))
(needB (sz (A (0 + z1.toNat)).fst && sz (A (0 + z1.toNat)).snd)
(needB (decide (0 ≤ z1) && decide (z1 < 5))
(needB (decide (0 + z1.toNat < 5))
(needB (sz (A (0 + z1.toNat)).fst && sz (A (0 + z1.toNat)).snd)
(needB (decide (0 ≤ z1) && decide (z1 < 5))
(needB (decide (0 + z1.toNat < 5))
(needB (sz (A (0 + z1.toNat)).fst && sz (A (0 + z1.toNat)).snd)
(branch (!(seq (rDown (A (0 + z1.toNat)) p).fst.fst (rDown (A (0 + z1.toNat)) p).fst.fst && (seq (rDown (A (0 + z1.toNat)) p).fst.snd (rDown (A (0 + z1.toNat)) p).fst.snd && true)) || (rDown (A (0 + z1.toNat)) p).snd != (rDown (A (0 + z1.toNat)) p).snd || !(seq (rUp (A (0 + z1.toNat)) p).fst.fst (rUp (A (0 + z1.toNat)) p).fst.fst && (seq (rUp (A (0 + z1.toNat)) p).fst.snd (rUp (A (0 + z1.toNat)) p).fst.snd && true)) || (rUp (A (0 + z1.toNat)) p).snd != (rUp (A (0 + z1.toNat)) p).snd)
(K (SV.val (Value.bool false)))
(needB (decide (0 ≤ z1) && decide (z1 < 5))
(needB (decide (0 + z1.toNat < 5))
(needB (sz (A (0 + z1.toNat)).fst && sz (A (0 + z1.toNat)).snd)
(needB (decide (0 ≤ z1) && decide (z1 < 5))
(needB (decide (0 + z1.toNat < 5))
(needB (sz (A (0 + z1.toNat)).fst && sz (A (0 + z1.toNat)).snd)
(needB (decide (0 ≤ z1) && decide (z1 < 5))
(needB (decide (0 + z1.toNat < 5))
(needB (sz (A (0 + z1.toNat)).fst && sz (A (0 + z1.toNat)).snd)
(needB (decide (0 ≤ z1) && decide (z1 < 5))
(needB (decide (0 + z1.toNat < 5))
(needB (sz (A (0 + z1.toNat)).fst && sz (A (0 + z1.toNat)).snd)
(branch (!(seq (rDown (A (0 + z1.toNat)) (pickI p 32)).fst.fst (rDown (A (0 + z1.toNat)) (pickI p 32)).fst.fst && (seq (rDown (A (0 + z1.toNat)) (pickI p 32)).fst.snd (rDown (A (0 + z1.toNat)) (pickI p 32)).fst.snd && true)) || (rDown (A (0 + z1.toNat)) (pickI p 32)).snd != (rDown (A (0 + z1.toNat)) (pickI p 32)).snd || !(seq (rUp (A (0 + z1.toNat)) (pickI p 32)).fst.fst (rUp (A (0 + z1.toNat)) (pickI p 32)).fst.fst && (seq (rUp (A (0 + z1.toNat)) (pickI p 32)).fst.snd (rUp (A (0 + z1.toNat)) (pickI p 32)).fst.snd && true)) || (rUp (A (0 + z1.toNat)) (pickI p 32)).snd != (rUp (A (0 + z1.toNat)) (pickI p 32)).snd)
(K (SV.val (Value.bool false)))
(needB (decide (0 ≤ z1) && decide (z1 < 5))
(needB (decide (0 + z1.toNat < 5))
(needB (sz (A (0 + z1.toNat)).fst && sz (A 0).snd)
(needB (decide (0 ≤ z1) && decide (z1 < 5))
(needB (decide (0 + z1.toNat < 5))
(needB (sz (A (0 + z1.toNat)).fst && sz (A 0).snd)
(needB (decide (0 ≤ z1) && decide (z1 < 5))
(needB (decide (0 + z1.toNat < 5))
(needB (sz (A (0 + z1.toNat)).fst && sz (A (0 + z1.toNat)).snd)
(needB (decide (0 ≤ z1) && decide (z1 < 5))
(needB (decide (0 + z1.toNat < 5))
(needB (sz (A (0 + z1.toNat)).fst && sz (A (0 + z1.toNat)).snd)
(branch (!rV (A (0 + z1.toNat)) == rV (A (0 + z1.toNat)) || !(seq (rMake (A (0 + z1.toNat)).fst (A 0).snd).fst.fst (rMake (A (0 + z1.toNat)).fst (A 0).snd).fst.fst && (seq (rMake (A (0 + z1.toNat)).fst (A 0).snd).fst.snd (rMake (A (0 + z1.toNat)).fst (A 0).snd).fst.snd && true)) || (rMake (A (0 + z1.toNat)).fst (A 0).snd).snd != (rMake (A (0 + z1.toNat)).fst (A 0).snd).snd)
(K (SV.val (Value.bool false)))
(needB (inR IntKind.i64 (z1 + 1))
(∃ z5 : Int,
(((0 ≤ z5) ∧
(z5 ≤ 5)) ∧
(((5 - z5).toNat < (5 - z1).toNat) ∧
(((TV.v (SV.val (Value.int IntKind.i64 (z1 + 1))) = TV.v (SV.val (Value.int IntKind.i64 z5))) ∧
((TV.v (SV.val (Value.int IntKind.i64 n)) = TV.v (SV.val (Value.int IntKind.i64 n))) ∧
((TV.v (SV.val (Value.int IntKind.i64 d)) = TV.v (SV.val (Value.int IntKind.i64 d))) ∧
((TV.v (SV.val (Value.int IntKind.i64 p)) = TV.v (SV.val (Value.int IntKind.i64 p))) ∧
((TV.v (SV.val (Value.bool true)) = TV.v (SV.val (Value.bool true))) ∧
((TV.v (SV.slc (0 + 1 + 1 + 1 + 1 + 1 + 1 + 1 + 1 + 1 + 1 + 1 + 16 + 1 + 1 + 1 + 1 + 16 + 1 + 8) 0 5) = TV.v (SV.slc (0 + 1 + 1 + 1 + 1 + 1 + 1 + 1 + 1 + 1 + 1 + 1 + 16 + 1 + 1 + 1 + 1 + 16 + 1 + 8) 0 5)) ∧
(True))))))) ∧
(((([SV.val (Value.string (A 4).fst), SV.val (Value.string (A 4).snd)] = [SV.val (Value.string (A 4).fst), SV.val (Value.string (A 4).snd)]) ∧
(([SV.val (Value.string (A 3).fst), SV.val (Value.string (A 3).snd)] = [SV.val (Value.string (A 3).fst), SV.val (Value.string (A 3).snd)]) ∧
(([SV.val (Value.string (A 2).fst), SV.val (Value.string (A 2).snd)] = [SV.val (Value.string (A 2).fst), SV.val (Value.string (A 2).snd)]) ∧
(([SV.val (Value.string (A 1).fst), SV.val (Value.string (A 1).snd)] = [SV.val (Value.string (A 1).fst), SV.val (Value.string (A 1).snd)]) ∧
(([SV.val (Value.string (A 0).fst), SV.val (Value.string (A 0).snd)] = [SV.val (Value.string (A 0).fst), SV.val (Value.string (A 0).snd)]) ∧
(True)))))) ∧
(True)) ∧
(True))))))))))))))))))))))))))))))))))))))))))))))))))))))
(needB (i64 n && i64 d)
(needB (i64 n && i64 d)
(K (SV.val (Value.bool (true && (seq (rMk n d).fst.fst (rMk n d).fst.fst && (seq (rMk n d).fst.snd (rMk n d).fst.snd && true)) && (rMk n d).snd == (rMk n d).snd)))))))))))))))))))) := by kernel_rfl

/-- The first 210 bytes of a text. -/
def cutS (a : ByteArray) : ByteArray := a.extract 0 (if 210 < (a.size : Int) then 210 else (a.size : Int)).toNat
theorem cutS_sz (a : ByteArray) : sz (cutS a) = true := sz_iff.2 (by
  unfold cutS
  rw [ByteArray.size_extract]
  unfold maxLen
  split <;> omega)
/-- The five fractions that are compared. -/
def five (xa xb ya yb : ByteArray) (l0 l1 l2 l3 m0 m1 m2 m3 s0 s1 : Int) : Nat → RS
  | 0 => (cutS xa, cutS xb)
  | 1 => (cutS ya, cutS yb)
  | 2 => longF l0 l1 l2 l3
  | 3 => longF m0 m1 m2 m3
  | _ => smallF s0 s1
theorem five_sz (xa xb ya yb : ByteArray) (l0 l1 l2 l3 m0 m1 m2 m3 s0 s1 : Int) (e : Nat) : sz (five xa xb ya yb l0 l1 l2 l3 m0 m1 m2 m3 s0 s1 e).1 = true ∧ sz (five xa xb ya yb l0 l1 l2 l3 m0 m1 m2 m3 s0 s1 e).2 = true := by
  match e with
  | 0 => exact ⟨cutS_sz _, cutS_sz _⟩
  | 1 => exact ⟨cutS_sz _, cutS_sz _⟩
  | 2 => exact longF_sz _ _ _ _
  | 3 => exact longF_sz _ _ _ _
  | _ + 4 => exact smallF_sz _ _
theorem cut_needs (a : ByteArray) : (decide (0 ≤ if 210 < (a.size : Int) then 210 else (a.size : Int)) && decide ((if 210 < (a.size : Int) then 210 else (a.size : Int)) ≤ (a.size : Int))) = true := by
  simp only [Bool.and_eq_true, decide_eq_true_eq]
  split <;> omega
/-- A statement that is not to be laid open. -/
structure Box (p : Prop) : Prop where
  out : p
set_option maxRecDepth 100000 in
theorem match_runs (xa xb ya yb : ByteArray) (l0 l1 l2 l3 m0 m1 m2 m3 s0 s1 n d p : Int) (hl : (i64 l0 && i64 l1 && i64 l2 && i64 l3) = true) (hm : (i64 m0 && i64 m1 && i64 m2 && i64 m3) = true) (hs : (i64 s0 && i64 s1) = true) (hn : i64 n = true) (hd : i64 d = true) (hp : i64 p = true) :
    Box (runR (annM (five xa xb ya yb l0 l1 l2 l3 m0 m1 m2 m3 s0 s1) 56) 4 6 [.agg [.val (.string xa), .val (.string xb)], .agg [.val (.string ya), .val (.string yb)], sv4 l0 l1 l2 l3, sv4 m0 m1 m2 m3, sv2 s0 s1, svI n, svI d, svI p] Yes) := by
  constructor
  rw [match_vc]
  have ss : ∀ s : ByteArray, seq s s = true := fun s => seq_iff.2 rfl
  have z := five_sz xa xb ya yb l0 l1 l2 l3 m0 m1 m2 m3 s0 s1
  have z1 := fun e => (z e).1
  have z2 := fun e => (z e).2
  have br : ∀ {A B : Prop}, branch false A B = B := rfl
  simp only [cut_needs, hl, hm, hs, hn, hd, hp, z1, z2, ss, Bool.and_self, Bool.and_true, Bool.true_and, Bool.not_true, Bool.or_self, bne_self_eq_false, beq_self_eq_true, needB_true, br, and_true, true_and]
  refine ⟨0, ⟨by omega, by omega⟩, rfl, ⟨rfl, rfl, rfl, rfl, rfl⟩, ?_⟩
  rintro i ⟨a0, a1⟩
  refine branch_iff.2 ⟨fun h => ?_, fun _ => by simp [yes_iff]⟩
  have h1 := of_decide_eq_true h
  have c1 : (decide (0 ≤ i) && decide (i < 5)) = true := by simp; omega
  have c2 : decide (0 + i.toNat < 5) = true := by simp; omega
  have c3 : inR IntKind.i64 (i + 1) = true := inR_small (by omega) (by omega)
  refine ⟨0, ⟨by omega, by omega⟩, rfl, ?_⟩
  rintro k ⟨b0, b1⟩
  refine branch_iff.2 ⟨fun g => ?_, fun _ => ?_⟩
  · have g1 := of_decide_eq_true g
    have d1 : (decide (0 ≤ k) && decide (k < 5)) = true := by simp; omega
    have d2 : decide (0 + k.toNat < 5) = true := by simp; omega
    have d3 : inR IntKind.i64 (k + 1) = true := inR_small (by omega) (by omega)
    simp only [c1, c2, d1, d2, d3, impB_true, needB_true]
    exact ⟨k + 1, ⟨by omega, by omega⟩, by omega, rfl⟩
  · simp only [c1, c2, c3, needB_true]
    exact ⟨i + 1, ⟨by omega, by omega⟩, by omega, rfl⟩
end Go.Proofs.YtgeoidnleagloaaGreatDoor
