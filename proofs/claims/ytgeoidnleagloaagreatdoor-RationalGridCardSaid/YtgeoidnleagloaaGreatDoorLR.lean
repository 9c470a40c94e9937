/- The law RationalGrid: what its run comes to, and that it holds. -/
import Derived.Test.YtgeoidnleagloaaGreatDoorLP
import Derived.Test.YtgeoidnleagloaaGreatDoorGP
import Derived.Test.YtgeoidnleagloaaGreatDoorQG
set_option linter.unusedVariables false
set_option linter.unusedSimpArgs false
namespace Go.Proofs.YtgeoidnleagloaaGreatDoor
open Go Go.RowKit Go.Sy Yk

/-- What is known at the head of the loop that writes the power of ten. -/
def annGrid (T : Nat → ByteArray) (id : Nat) (p : Int) : FuncId → Nat → Option Ann := fun f k => bif Nat.beq f 10 && Nat.beq k 6 then some { X := Int × ByteArray, inv := fun x => 0 ≤ x.1 ∧ x.1 ≤ p ∧ x.2 = T x.1.toNat, tm := fun x => [(1, .val (.int .i64 p)), (5, .val (.bool true)), (6, .ptr id 0 0), (7, .val (.string x.2)), (8, .val (.int .i64 x.1))], bk := fun _ => [], mu := fun x => (p - x.1).toNat, clean := fun _ _ _ h => by cases h } else none
set_option maxRecDepth 100000 in
theorem grid_vc (T : Nat → ByteArray) (x0 x1 x2 x3 p q : Int) (K : SV → Prop) :
    runP (annGrid T 6 q) 4 10 [sv4 x0 x1 x2 x3, svI p] K = (
needB (i64 x0 && i64 x1 && i64 x2 && i64 x3)
  (∀ (x : Rat),
    Few 100 x →
      needB (i64 p && true)
        (∃ x0 : Int × ByteArray,
          (0 ≤ x0.fst ∧ x0.fst ≤ q ∧ x0.snd = T x0.fst.toNat) ∧
            (TV.v (SV.val (Value.int IntKind.i64 (pickI p 31))) = TV.v (SV.val (Value.int IntKind.i64 q)) ∧
                TV.v (SV.val (Value.bool true)) = TV.v (SV.val (Value.bool true)) ∧
                  TV.v (SV.ptr (0 + 1 + 1 + 1 + 1 + 1 + 1) 0 0) = TV.v (SV.ptr 6 0 0) ∧
                    TV.v (SV.val (Value.string { data := #[49] })) = TV.v (SV.val (Value.string x0.snd)) ∧
                      TV.v (SV.val (Value.int IntKind.i64 0)) = TV.v (SV.val (Value.int IntKind.i64 x0.fst)) ∧ True) ∧
              True ∧
                ∀ (x_1 : Int × ByteArray),
                  0 ≤ x_1.fst ∧ x_1.fst ≤ q ∧ x_1.snd = T x_1.fst.toNat →
                    branch (decide (x_1.fst < q))
                      (needB (decide (x_1.snd.size + 1 ≤ 9223372036854775807))
                        (needB (inR IntKind.i64 (x_1.fst + 1))
                          (∃ x' : Int × ByteArray,
                            (0 ≤ x'.fst ∧ x'.fst ≤ q ∧ x'.snd = T x'.fst.toNat) ∧
                              (q - x'.fst).toNat < (q - x_1.fst).toNat ∧
                                (TV.v (SV.val (Value.int IntKind.i64 q)) = TV.v (SV.val (Value.int IntKind.i64 q)) ∧
                                    TV.v (SV.val (Value.bool true)) = TV.v (SV.val (Value.bool true)) ∧
                                      TV.v (SV.ptr 6 0 0) = TV.v (SV.ptr 6 0 0) ∧
                                        TV.v (SV.val (Value.string (x_1.snd ++ { data := #[48] }))) = TV.v (SV.val (Value.string x'.snd)) ∧
                                          TV.v (SV.val (Value.int IntKind.i64 (x_1.fst + 1))) = TV.v (SV.val (Value.int IntKind.i64 x'.fst)) ∧ True) ∧
                                  True ∧ True)))
                      (needB (sz (rT x).fst && sz (rT x).snd)
                        (needB (sz (rT x).fst && sz (rT x).snd)
                          (needB (sz (rT x).fst && sz (rT x).snd)
                            (needB (sz (rSub rZero (rT x)).fst.fst && sz (rSub rZero (rT x)).fst.snd)
                              (needB
                                (impB (!((rDown (rT x) q).snd != 0 || (rUp (rT x) q).snd != 0 || (rDown (rSub rZero (rT x)).fst q).snd != 0))
                                  (sz (rDown (rSub rZero (rT x)).fst q).fst.fst && sz (rDown (rSub rZero (rT x)).fst q).fst.snd))
                                (needB
                                  (impB
                                    (!((rDown (rT x) q).snd != 0 || (rUp (rT x) q).snd != 0 || (rDown (rSub rZero (rT x)).fst q).snd != 0 ||
                                        !(seq (rSub rZero (rDown (rSub rZero (rT x)).fst q).fst).fst.fst (rUp (rT x) q).fst.fst &&
                                            (seq (rSub rZero (rDown (rSub rZero (rT x)).fst q).fst).fst.snd (rUp (rT x) q).fst.snd && true))))
                                    (sz (rDown (rT x) q).fst.fst && sz (rDown (rT x) q).fst.snd && sz (rT x).fst && sz (rT x).snd))
                                  (needB
                                    (impB
                                      (!((rDown (rT x) q).snd != 0 || (rUp (rT x) q).snd != 0 || (rDown (rSub rZero (rT x)).fst q).snd != 0 ||
                                            !(seq (rSub rZero (rDown (rSub rZero (rT x)).fst q).fst).fst.fst (rUp (rT x) q).fst.fst &&
                                                (seq (rSub rZero (rDown (rSub rZero (rT x)).fst q).fst).fst.snd (rUp (rT x) q).fst.snd && true)) ||
                                          decide (rCmp (rDown (rT x) q).fst (rT x) > 0)))
                                      (sz (rUp (rT x) q).fst.fst && sz (rUp (rT x) q).fst.snd && sz (rT x).fst && sz (rT x).snd))
                                    (branch
                                      ((rDown (rT x) q).snd != 0 || (rUp (rT x) q).snd != 0 || (rDown (rSub rZero (rT x)).fst q).snd != 0 ||
                                            !(seq (rSub rZero (rDown (rSub rZero (rT x)).fst q).fst).fst.fst (rUp (rT x) q).fst.fst &&
                                                (seq (rSub rZero (rDown (rSub rZero (rT x)).fst q).fst).fst.snd (rUp (rT x) q).fst.snd && true)) ||
                                          decide (rCmp (rDown (rT x) q).fst (rT x) > 0) ||
                                        decide (rCmp (rUp (rT x) q).fst (rT x) < 0))
                                      (K (SV.val (Value.bool false)))
                                      (needB (sz (rUp (rT x) q).fst.fst && sz (rUp (rT x) q).fst.snd)
                                        (needB (sz (rDown (rT x) q).fst.fst && sz (rDown (rT x) q).fst.snd)
                                          (needB (sz (rDown (rT x) q).fst.fst && sz (rDown (rT x) q).fst.snd && sz x_1.snd && true)
                                            (needB (sz (rUp (rT x) q).fst.fst && sz (rUp (rT x) q).fst.snd && sz (rDown (rT x) q).fst.fst && sz (rDown (rT x) q).fst.snd)
                                              (needB (sz (rDown (rT x) q).fst.fst && sz (rDown (rT x) q).fst.snd && sz (rT x).fst && sz (rT x).snd)
                                                (branch (q == 0)
                                                  (branch (rCmp (rDown (rT x) q).fst (rT x) == 0)
                                                    (needB
                                                      (impB
                                                        (true && (rDown (rUp (rT x) q).fst q).snd == 0 && (rUp (rDown (rT x) q).fst q).snd == 0 &&
                                                                    (seq (rDown (rUp (rT x) q).fst q).fst.fst (rUp (rT x) q).fst.fst &&
                                                                      (seq (rDown (rUp (rT x) q).fst q).fst.snd (rUp (rT x) q).fst.snd && true)) &&
                                                                  (seq (rUp (rDown (rT x) q).fst q).fst.fst (rDown (rT x) q).fst.fst &&
                                                                    (seq (rUp (rDown (rT x) q).fst q).fst.snd (rDown (rT x) q).fst.snd && true)) &&
                                                                (rMul (rDown (rT x) q).fst (x_1.snd, { data := #[49] })).snd == 0 &&
                                                              seq (rMul (rDown (rT x) q).fst (x_1.snd, { data := #[49] })).fst.snd { data := #[49] } &&
                                                            (rSub (rUp (rT x) q).fst (rDown (rT x) q).fst).snd == 0 &&
                                                          (seq (rSub (rUp (rT x) q).fst (rDown (rT x) q).fst).fst.fst { data := #[48] } &&
                                                            (seq (rSub (rUp (rT x) q).fst (rDown (rT x) q).fst).fst.snd { data := #[49] } && true)))
                                                        (sz (rUp (rT x) q).fst.fst && sz (rUp (rT x) q).fst.snd && sz (rT x).fst && sz (rT x).snd))
                                                      (K
                                                        (SV.val
                                                          (Value.bool
                                                            (true && (rDown (rUp (rT x) q).fst q).snd == 0 && (rUp (rDown (rT x) q).fst q).snd == 0 &&
                                                                          (seq (rDown (rUp (rT x) q).fst q).fst.fst (rUp (rT x) q).fst.fst &&
                                                                            (seq (rDown (rUp (rT x) q).fst q).fst.snd (rUp (rT x) q).fst.snd && true)) &&
                                                                        (seq (rUp (rDown (rT x) q).fst q).fst.fst (rDown (rT x) q).fst.fst &&
                                                                          (seq (rUp (rDown (rT x) q).fst q).fst.snd (rDown (rT x) q).fst.snd && true)) &&
                                                                      (rMul (rDown (rT x) q).fst (x_1.snd, { data := #[49] })).snd == 0 &&
                                                                    seq (rMul (rDown (rT x) q).fst (x_1.snd, { data := #[49] })).fst.snd { data := #[49] } &&
                                                                  (rSub (rUp (rT x) q).fst (rDown (rT x) q).fst).snd == 0 &&
                                                                (seq (rSub (rUp (rT x) q).fst (rDown (rT x) q).fst).fst.fst { data := #[48] } &&
                                                                  (seq (rSub (rUp (rT x) q).fst (rDown (rT x) q).fst).fst.snd { data := #[49] } && true)) &&
                                                              (rCmp (rDown (rT x) q).fst (rT x) == 0) == (rCmp (rUp (rT x) q).fst (rT x) == 0))))))
                                                    (needB
                                                      (impB
                                                        (true && (rDown (rUp (rT x) q).fst q).snd == 0 && (rUp (rDown (rT x) q).fst q).snd == 0 &&
                                                                    (seq (rDown (rUp (rT x) q).fst q).fst.fst (rUp (rT x) q).fst.fst &&
                                                                      (seq (rDown (rUp (rT x) q).fst q).fst.snd (rUp (rT x) q).fst.snd && true)) &&
                                                                  (seq (rUp (rDown (rT x) q).fst q).fst.fst (rDown (rT x) q).fst.fst &&
                                                                    (seq (rUp (rDown (rT x) q).fst q).fst.snd (rDown (rT x) q).fst.snd && true)) &&
                                                                (rMul (rDown (rT x) q).fst (x_1.snd, { data := #[49] })).snd == 0 &&
                                                              seq (rMul (rDown (rT x) q).fst (x_1.snd, { data := #[49] })).fst.snd { data := #[49] } &&
                                                            (rSub (rUp (rT x) q).fst (rDown (rT x) q).fst).snd == 0 &&
                                                          (seq (rSub (rUp (rT x) q).fst (rDown (rT x) q).fst).fst.fst { data := #[49] } &&
                                                            (seq (rSub (rUp (rT x) q).fst (rDown (rT x) q).fst).fst.snd { data := #[49] } && true)))
                                                        (sz (rUp (rT x) q).fst.fst && sz (rUp (rT x) q).fst.snd && sz (rT x).fst && sz (rT x).snd))
                                                      (K
                                                        (SV.val
                                                          (Value.bool
                                                            (true && (rDown (rUp (rT x) q).fst q).snd == 0 && (rUp (rDown (rT x) q).fst q).snd == 0 &&
                                                                          (seq (rDown (rUp (rT x) q).fst q).fst.fst (rUp (rT x) q).fst.fst &&
                                                                            (seq (rDown (rUp (rT x) q).fst q).fst.snd (rUp (rT x) q).fst.snd && true)) &&
                                                                        (seq (rUp (rDown (rT x) q).fst q).fst.fst (rDown (rT x) q).fst.fst &&
                                                                          (seq (rUp (rDown (rT x) q).fst q).fst.snd (rDown (rT x) q).fst.snd && true)) &&
                                                                      (rMul (rDown (rT x) q).fst (x_1.snd, { data := #[49] })).snd == 0 &&
                                                                    seq (rMul (rDown (rT x) q).fst (x_1.snd, { data := #[49] })).fst.snd { data := #[49] } &&
                                                                  (rSub (rUp (rT x) q).fst (rDown (rT x) q).fst).snd == 0 &&
                                                                (seq (rSub (rUp (rT x) q).fst (rDown (rT x) q).fst).fst.fst { data := #[49] } &&
                                                                  (seq (rSub (rUp (rT x) q).fst (rDown (rT x) q).fst).fst.snd { data := #[49] } && true)) &&
                                                              (rCmp (rDown (rT x) q).fst (rT x) == 0) == (rCmp (rUp (rT x) q).fst (rT x) == 0)))))))
                                                  (branch (rCmp (rDown (rT x) q).fst (rT x) == 0)
                                                    (needB
                                                      (impB
                                                        (true && (rDown (rUp (rT x) q).fst q).snd == 0 && (rUp (rDown (rT x) q).fst q).snd == 0 &&
                                                                    (seq (rDown (rUp (rT x) q).fst q).fst.fst (rUp (rT x) q).fst.fst &&
                                                                      (seq (rDown (rUp (rT x) q).fst q).fst.snd (rUp (rT x) q).fst.snd && true)) &&
                                                                  (seq (rUp (rDown (rT x) q).fst q).fst.fst (rDown (rT x) q).fst.fst &&
                                                                    (seq (rUp (rDown (rT x) q).fst q).fst.snd (rDown (rT x) q).fst.snd && true)) &&
                                                                (rMul (rDown (rT x) q).fst (x_1.snd, { data := #[49] })).snd == 0 &&
                                                              seq (rMul (rDown (rT x) q).fst (x_1.snd, { data := #[49] })).fst.snd { data := #[49] } &&
                                                            (rSub (rUp (rT x) q).fst (rDown (rT x) q).fst).snd == 0 &&
                                                          (seq (rSub (rUp (rT x) q).fst (rDown (rT x) q).fst).fst.fst { data := #[48] } &&
                                                            (seq (rSub (rUp (rT x) q).fst (rDown (rT x) q).fst).fst.snd { data := #[49] } && true)))
                                                        (sz (rUp (rT x) q).fst.fst && sz (rUp (rT x) q).fst.snd && sz (rT x).fst && sz (rT x).snd))
                                                      (K
                                                        (SV.val
                                                          (Value.bool
                                                            (true && (rDown (rUp (rT x) q).fst q).snd == 0 && (rUp (rDown (rT x) q).fst q).snd == 0 &&
                                                                          (seq (rDown (rUp (rT x) q).fst q).fst.fst (rUp (rT x) q).fst.fst &&
                                                                            (seq (rDown (rUp (rT x) q).fst q).fst.snd (rUp (rT x) q).fst.snd && true)) &&
                                                                        (seq (rUp (rDown (rT x) q).fst q).fst.fst (rDown (rT x) q).fst.fst &&
                                                                          (seq (rUp (rDown (rT x) q).fst q).fst.snd (rDown (rT x) q).fst.snd && true)) &&
                                                                      (rMul (rDown (rT x) q).fst (x_1.snd, { data := #[49] })).snd == 0 &&
                                                                    seq (rMul (rDown (rT x) q).fst (x_1.snd, { data := #[49] })).fst.snd { data := #[49] } &&
                                                                  (rSub (rUp (rT x) q).fst (rDown (rT x) q).fst).snd == 0 &&
                                                                (seq (rSub (rUp (rT x) q).fst (rDown (rT x) q).fst).fst.fst { data := #[48] } &&
                                                                  (seq (rSub (rUp (rT x) q).fst (rDown (rT x) q).fst).fst.snd { data := #[49] } && true)) &&
                                                              (rCmp (rDown (rT x) q).fst (rT x) == 0) == (rCmp (rUp (rT x) q).fst (rT x) == 0))))))
                                                    (needB
                                                      (impB
                                                        (true && (rDown (rUp (rT x) q).fst q).snd == 0 && (rUp (rDown (rT x) q).fst q).snd == 0 &&
                                                                    (seq (rDown (rUp (rT x) q).fst q).fst.fst (rUp (rT x) q).fst.fst &&
                                                                      (seq (rDown (rUp (rT x) q).fst q).fst.snd (rUp (rT x) q).fst.snd && true)) &&
                                                                  (seq (rUp (rDown (rT x) q).fst q).fst.fst (rDown (rT x) q).fst.fst &&
                                                                    (seq (rUp (rDown (rT x) q).fst q).fst.snd (rDown (rT x) q).fst.snd && true)) &&
                                                                (rMul (rDown (rT x) q).fst (x_1.snd, { data := #[49] })).snd == 0 &&
                                                              seq (rMul (rDown (rT x) q).fst (x_1.snd, { data := #[49] })).fst.snd { data := #[49] } &&
                                                            (rSub (rUp (rT x) q).fst (rDown (rT x) q).fst).snd == 0 &&
                                                          (seq (rSub (rUp (rT x) q).fst (rDown (rT x) q).fst).fst.fst { data := #[49] } &&
                                                            (seq (rSub (rUp (rT x) q).fst (rDown (rT x) q).fst).fst.snd x_1.snd && true)))
                                                        (sz (rUp (rT x) q).fst.fst && sz (rUp (rT x) q).fst.snd && sz (rT x).fst && sz (rT x).snd))
                                                      (K
                                                        (SV.val
                                                          (Value.bool
                                                            (true && (rDown (rUp (rT x) q).fst q).snd == 0 && (rUp (rDown (rT x) q).fst q).snd == 0 &&
                                                                          (seq (rDown (rUp (rT x) q).fst q).fst.fst (rUp (rT x) q).fst.fst &&
                                                                            (seq (rDown (rUp (rT x) q).fst q).fst.snd (rUp (rT x) q).fst.snd && true)) &&
                                                                        (seq (rUp (rDown (rT x) q).fst q).fst.fst (rDown (rT x) q).fst.fst &&
                                                                          (seq (rUp (rDown (rT x) q).fst q).fst.snd (rDown (rT x) q).fst.snd && true)) &&
                                                                      (rMul (rDown (rT x) q).fst (x_1.snd, { data := #[49] })).snd == 0 &&
                                                                    seq (rMul (rDown (rT x) q).fst (x_1.snd, { data := #[49] })).fst.snd { data := #[49] } &&
                                                                  (rSub (rUp (rT x) q).fst (rDown (rT x) q).fst).snd == 0 &&
                                                                (seq (rSub (rUp (rT x) q).fst (rDown (rT x) q).fst).fst.fst { data := #[49] } &&
                                                                  (seq (rSub (rUp (rT x) q).fst (rDown (rT x) q).fst).fst.snd x_1.snd && true)) &&
                                                              (rCmp (rDown (rT x) q).fst (rT x) == 0) == (rCmp (rUp (rT x) q).fst (rT x) == 0)))))))))))))))))))))))) := by kernel_rfl

theorem ten_more {k : Nat} (h : k < 100) : ofI (ten k) ++ ⟨#[48]⟩ = ofI (ten (k + 1)) := by
  rw [ofI_ten (by omega), ofI_ten (by omega)]
  unfold tenT
  apply ByteArray.ext
  rw [ByteArray.data_append]
  apply Array.toList_inj.1
  simp [List.replicate_succ']
theorem ten_one : ofI (ten 0) = ⟨#[49]⟩ := by rw [show ten 0 = 1 from rfl, ofI_one]
theorem ten_vS {k : Nat} (h : k < 100) : vS (ofI (ten k)) = true := by rw [ofI_ten (by omega)]; exact vS_tenT (by omega)

set_option maxRecDepth 100000 in
theorem grid_any (x0 x1 x2 x3 p : Int) (x0l : -9223372036854775808 ≤ x0) (x0h : x0 ≤ 9223372036854775807) (x1l : -9223372036854775808 ≤ x1) (x1h : x1 ≤ 9223372036854775807) (x2l : -9223372036854775808 ≤ x2) (x2h : x2 ≤ 9223372036854775807) (x3l : -9223372036854775808 ≤ x3) (x3h : x3 ≤ 9223372036854775807) (pl : -9223372036854775808 ≤ p) (ph : p ≤ 9223372036854775807) (w : World) (hg : Glob w) :
    Calls Tryz.prog 10 #[.agg #[.int .i64 x0, .int .i64 x1, .int .i64 x2, .int .i64 x3], .int .i64 p] w fun e w' => e = .returned (.bool true) ∧ Below w.heap.size w w' := by
  obtain ⟨n, hn⟩ : ∃ n : Nat, pickI p 31 = n := ⟨(pickI p 31).toNat, by have := pick_range p (n := 31) (by decide); omega⟩
  have hn30 : n ≤ 30 := by have := pick_range p (n := 31) (by decide); omega
  refine law_runP hg (ann := annGrid (fun k => ofI (ten k)) 6 n) (n := 4) (args := [sv4 x0 x1 x2 x3, svI p]) rfl ?_
  rw [grid_vc]
  have I : ∀ {n : Int}, -9223372036854775808 ≤ n → n ≤ 9223372036854775807 → i64 n = true := fun a b => i64_iff.2 ⟨a, b⟩
  simp only [I x0l x0h, I x1l x1h, I x2l x2h, I x3l x3h, I pl ph, Bool.and_self, needB_true]
  intro r hr
  refine ⟨(0, ofI (ten 0)), ⟨by omega, by show (0 : Int) ≤ n; omega, rfl⟩, ⟨by rw [hn], trivial, trivial, by show _ = TV.v (SV.val (Value.string (ofI (ten 0)))); rw [ten_one], rfl, trivial⟩, trivial, ?_⟩
  rintro ⟨i, s⟩ ⟨i0, i1, e⟩
  dsimp only at i0 i1 e ⊢
  subst e
  obtain ⟨k, rfl⟩ : ∃ k : Nat, i = k := ⟨i.toNat, by omega⟩
  rw [Int.toNat_natCast]
  rw [branch_iff]
  simp only [decide_eq_true_eq, decide_eq_false_iff_not]
  have sT : sz (ofI (ten k)) = true := sz_of (ten_vS (by omega))
  refine ⟨fun hlt => ?_, fun hge => ?_⟩
  · simp only [needB_iff, decide_eq_true_eq]
    refine ⟨by have := vS_size (ten_vS (k := k) (by omega)); show (ofI (ten k)).size + 1 ≤ 9223372036854775807; omega, inR_small (by omega) (by omega), ((k : Int) + 1, ofI (ten (k + 1))), ⟨?_, ?_, ?_⟩, ?_, ⟨trivial, trivial, trivial, ?_, rfl, trivial⟩, trivial, trivial⟩
    · show (0 : Int) ≤ k + 1; omega
    · show (k : Int) + 1 ≤ n; omega
    · rfl
    · show ((n : Int) - (k + 1)).toNat < ((n : Int) - k).toNat; omega
    · show TV.v (SV.val (Value.string (ofI (ten k) ++ ⟨#[48]⟩))) = TV.v (SV.val (Value.string (ofI (ten (k + 1)))))
      rw [ten_more (by omega)]
  · obtain rfl : k = n := by omega
    have sr := sz_few hr (by decide)
    have fr := hr.rT (by decide)
    generalize rT r = r at *
    obtain ⟨a, b, c, fd, fu, fc, fm, c1, c2, db, ua, m1, m2, s1, s2, ci, va, vb, vc⟩ := grid_facts fr hn30
    have sa1 := sz_of (rV_parts va).1
    have sa2 := sz_of (rV_parts va).2.1
    have sb1 := sz_of (rV_parts vb).1
    have sb2 := sz_of (rV_parts vb).2.1
    have sc1 := sz_of (rV_parts vc).1
    have sc2 := sz_of (rV_parts vc).2.1
    have z := rSub_sz rZero r
    rw [ofI_one] at m1 m2 s2
    simp only [seq2, fd, fu, fc, fm, db, ua, m1, m2, s1, sr.1, sr.2, sa1, sa2, sb1, sb2, sc1, sc2, z.1, z.2, sT, Bool.and_self, Bool.and_true, Bool.true_and, needB_true, impB_true]
    have ss : ∀ s : ByteArray, seq s s = true := fun s => seq_iff.2 rfl
    have f1 : decide (rCmp a r > 0) = false := by simp; omega
    have f2 : decide (rCmp b r < 0) = false := by simp; omega
    have f3 : ((rCmp a r == 0) == (rCmp b r == 0)) = true := by
      by_cases h : rCmp a r = 0
      · simp [h, ci.1 h]
      · have h2 : ¬ rCmp b r = 0 := fun e => h (ci.2 e)
        rw [beq_eq_false_iff_ne.2 h, beq_eq_false_iff_ne.2 h2]; rfl
    simp only [f1, f2, f3, ss, bne_self_eq_false, beq_self_eq_true, Bool.and_self, Bool.and_true, Bool.true_and, Bool.not_true, Bool.or_self, s2]
    refine branch_iff.2 ⟨fun h => by simp at h, fun _ => ?_⟩
    by_cases h : rCmp a r = 0
    · rw [if_pos h]
      have z1 : rZero.1 = ⟨#[48]⟩ := by rw [← zero_lit]
      have z2 : rZero.2 = ⟨#[49]⟩ := by rw [← zero_lit]
      simp [branch_iff, yes_iff, h, z1, z2, ss]
    · rw [if_neg h]
      by_cases h0 : k = 0
      · subst h0
        simp [branch_iff, yes_iff, h, ten_one, ss]
      · simp [branch_iff, yes_iff, h, h0, ss]
end Go.Proofs.YtgeoidnleagloaaGreatDoor
