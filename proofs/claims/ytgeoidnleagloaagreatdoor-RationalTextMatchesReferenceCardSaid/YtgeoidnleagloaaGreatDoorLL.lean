/- The reference's Long and Small by the run: what they give is a function of the integers. -/
import Derived.Test.YtgeoidnleagloaaGreatDoorLP
set_option linter.unusedVariables false
set_option linter.unusedSimpArgs false
namespace Go.Proofs.YtgeoidnleagloaaGreatDoor
open Go Go.RowKit Go.Sy Yk

theorem pick4_vc (a b : Int) (K : SV → Prop) : inlN Tryz.prog (oneOf [46]) (lookG []) (lookM []) (fun _ _ => none) 2 46 [.val (.int .i64 a), .val (.int .i64 b)] (fun _ => none) 0 [] (fun r _ _ _ => K r) =
    branch (decide (a < 0)) (needB (inR IntKind.i64 (a + 1)) (needB (inR IntKind.i64 (-(a + 1))) (needB (!decide (b = 0)) (K (SV.val (Value.int IntKind.i64 ((-(a + 1)).tmod b)))))))
  (needB (!decide (b = 0)) (K (SV.val (Value.int IntKind.i64 (a.tmod b))))) := by kernel_rfl

/-- A contract out of a run, with its own contracts and functions. -/
theorem ctr_of_run2 {W0 : World} {o : List FuncId} (ho : ∀ f ∈ o, Callable Tryz.prog f) {g : List (FuncId × Ctr)} (hg : ∀ W, Below W0.heap.size W0 W → ∀ p ∈ g, CtrOK Tryz.prog W p.1 p.2 ∧ Callable Tryz.prog p.1) {f : FuncId} {k : Ctr} {ann : FuncId → Nat → Option Ann} {n : Nat}
    (h : ∀ args b s, k args = some (b, s) → b = true → SV.idss args = [] ∧ s.ids = [] ∧ inlN Tryz.prog (oneOf o) (lookG g) (lookM []) ann n f args (fun _ => none) 0 [] fun r _ _ _ => r = s) : CtrOK Tryz.prog W0 f k := by
  intro β w args b s hb hk hn
  obtain ⟨h1, h2, h3⟩ := h args b s hk hn
  refine ⟨h2, ?_⟩
  have H : Hyp Tryz.prog w (oneOf o) (lookG g) (lookM []) := hyp_of (hg w hb) (fun _ h => by cases h) ho mixed
  obtain ⟨_, hc⟩ := inlN_sound H ann n f args (fun _ => none) 0 [] _ β w h3 (bc_start w β) (fun _ _ => rfl) (fun s hs i hi => by
    have : i ∈ SV.idss args := SV.mem_idss.2 ⟨s, hs, hi⟩
    rw [h1] at this; cases this)
  refine Calls.mono hc ?_
  rintro e w' ⟨β', r, bl', nx', wl', rfl, rfl, hbc, _⟩
  exact ⟨by rw [SV.conc_congr r (β := β) (β' := β') (fun i hi => by rw [h2] at hi; cases hi)], hbc.below⟩
section
variable {W0 : World}
theorem ctrPick4 : CtrOK Tryz.prog W0 46 cPick := by
  refine ctr_of_run2 (o := [46]) (by simp only [List.forall_mem_cons, List.forall_mem_nil]; exact ⟨Tryz.call46, fun _ h => by cases h⟩) (g := []) (ann := fun _ _ => none) (n := 2) (fun W hb _ h => by cases h) ?_
  intro args b s h hb
  unfold cPick at h
  split at h
  · rename_i c n
    simp only [Option.some.injEq, Prod.mk.injEq] at h
    obtain ⟨rfl, rfl⟩ := h
    simp only [Bool.and_eq_true, i64_iff, decide_eq_true_eq] at hb
    refine ⟨by simp [SV.ids, SV.idss], by simp [SV.ids, SV.idss], ?_⟩
    rw [pick4_vc c n (fun r => r = _)]
    unfold pickI
    rw [branch_iff]
    simp only [needB_iff, decide_eq_true_eq, decide_eq_false_iff_not, inR_iff, kLo, kHi, Bool.not_eq_true']
    refine ⟨fun h => ⟨by omega, by omega, by omega, by rw [if_pos h]⟩, fun h => ⟨by omega, by rw [if_neg h]⟩⟩
  · cases h
end
def gamL : List (FuncId × Ctr) := [(46, cPick), (39, cSSR rMake), (42, cIIR rMk)]
def invL (I1 : Int → Int → Int → ByteArray → Prop) : List SV → Int × ByteArray → Prop
  | [.val (.int _ n), .val (.int _ c0)], x => I1 n c0 x.1 x.2
  | _, _ => False
def invL2 (I2 : ByteArray → ByteArray → Prop) : List SV → ByteArray → Prop
  | [.val (.string s0)], x => I2 s0 x
  | _, _ => False
def ann1 (I1 : Int → Int → Int → ByteArray → Prop) : Ann := { X := Int × ByteArray, old := [5, 7], keep := [1, 2, 3, 4, 5], inv := invL I1, tm := fun x => [(6, .val (.string x.2)), (7, .val (.int .i64 x.1))], bk := fun _ => [], mu := fun x => (200 - (x.2.size : Int)).toNat, clean := fun _ _ _ h => by cases h }
def ann2 (I2 : ByteArray → ByteArray → Prop) : Ann := { X := ByteArray, old := [6], keep := [1, 2, 3, 4], inv := invL2 I2, tm := fun x => [(6, .val (.string x))], bk := fun _ => [], mu := fun x => x.size, clean := fun _ _ _ h => by cases h }
def annL (I1 : Int → Int → Int → ByteArray → Prop) (I2 : ByteArray → ByteArray → Prop) : FuncId → Nat → Option Ann := fun f k => bif Nat.beq f 12 then
    (bif Nat.beq k 8 then some (ann1 I1) else bif Nat.beq k 11 then some (ann2 I2) else none) else none
abbrev runL (I1 : Int → Int → Int → ByteArray → Prop) (I2 : ByteArray → ByteArray → Prop) (f : FuncId) (args : List SV) (K : SV → Prop) : Prop := inlN Tryz.prog (oneOf [12, 28]) (lookG gamL) (lookM []) (annL I1 I2) 2 f args (fun _ => none) 0 [] fun r _ _ _ => K r

set_option maxRecDepth 100000 in
theorem long_vc (I1 : Int → Int → Int → ByteArray → Prop) (I2 : ByteArray → ByteArray → Prop) (x0 x1 x2 x3 : Int) (K : SV → Prop) : runL I1 I2 12 [sv4 x0 x1 x2 x3] K = (
needB (i64 x1 && true)
  (needB (inR IntKind.i64 (1 + pickI x1 100))
    (needB (i64 x0 && true)
      (∃ x0_1 : Int × ByteArray,
        I1 (1 + pickI x1 100) (pickI x0 1000000007) x0_1.fst x0_1.snd ∧
          (TV.v (SV.val (Value.string { data := #[] })) = TV.v (SV.val (Value.string x0_1.snd)) ∧
              TV.v (SV.val (Value.int IntKind.i64 (pickI x0 1000000007))) = TV.v (SV.val (Value.int IntKind.i64 x0_1.fst)) ∧
                TV.v (SV.ptr 0 0 0) = TV.v (SV.ptr 0 0 0) ∧
                  TV.v (SV.ptr (0 + 1) 0 0) = TV.v (SV.ptr (0 + 1) 0 0) ∧
                    TV.v (SV.ptr (0 + 1 + 1) 0 0) = TV.v (SV.ptr (0 + 1 + 1) 0 0) ∧
                      TV.v (SV.val (Value.int IntKind.i64 0)) = TV.v (SV.val (Value.int IntKind.i64 0)) ∧
                        TV.v (SV.val (Value.int IntKind.i64 (1 + pickI x1 100))) = TV.v (SV.val (Value.int IntKind.i64 (1 + pickI x1 100))) ∧ True) ∧
            True ∧
              ∀ (x : Int × ByteArray),
                I1 (1 + pickI x1 100) (pickI x0 1000000007) x.fst x.snd →
                  branch (decide ((↑x.snd.size : Int) < 1 + pickI x1 100))
                    (needB (inR IntKind.i64 (x.fst * 48271))
                      (needB (inR IntKind.i64 (x.fst * 48271 + 11))
                        (needB (inR IntKind.i64 (((x.fst * 48271 + 11).tmod 2147483647).tdiv 65536))
                          (needB (inR IntKind.i64 (48 + (((x.fst * 48271 + 11).tmod 2147483647).tdiv 65536).tmod 10))
                            (needB (inR IntKind.u8 (48 + (((x.fst * 48271 + 11).tmod 2147483647).tdiv 65536).tmod 10))
                              (needB (decide (x.snd.size + ({ data := #[UInt8.ofNat (48 + (((x.fst * 48271 + 11).tmod 2147483647).tdiv 65536).tmod 10).toNat] } : ByteArray).size ≤ 9223372036854775807))
                                (∃ x' : Int × ByteArray,
                                  I1 (1 + pickI x1 100) (pickI x0 1000000007) x'.fst x'.snd ∧
                                    (200 - (↑x'.snd.size : Int)).toNat < (200 - (↑x.snd.size : Int)).toNat ∧
                                      (TV.v (SV.val (Value.string (x.snd ++ { data := #[UInt8.ofNat (48 + (((x.fst * 48271 + 11).tmod 2147483647).tdiv 65536).tmod 10).toNat] }))) =
                                            TV.v (SV.val (Value.string x'.snd)) ∧
                                          TV.v (SV.val (Value.int IntKind.i64 ((x.fst * 48271 + 11).tmod 2147483647))) = TV.v (SV.val (Value.int IntKind.i64 x'.fst)) ∧
                                            TV.v (SV.ptr 0 0 0) = TV.v (SV.ptr 0 0 0) ∧
                                              TV.v (SV.ptr (0 + 1) 0 0) = TV.v (SV.ptr (0 + 1) 0 0) ∧
                                                TV.v (SV.ptr (0 + 1 + 1) 0 0) = TV.v (SV.ptr (0 + 1 + 1) 0 0) ∧
                                                  TV.v (SV.val (Value.int IntKind.i64 0)) = TV.v (SV.val (Value.int IntKind.i64 0)) ∧
                                                    TV.v (SV.val (Value.int IntKind.i64 (1 + pickI x1 100))) = TV.v (SV.val (Value.int IntKind.i64 (1 + pickI x1 100))) ∧ True) ∧
                                        True ∧ True)))))))
                    (∃ x0_2 : ByteArray,
                      I2 x.snd x0_2 ∧
                        (TV.v (SV.val (Value.string x.snd)) = TV.v (SV.val (Value.string x0_2)) ∧
                            TV.v (SV.ptr 0 0 0) = TV.v (SV.ptr 0 0 0) ∧
                              TV.v (SV.ptr (0 + 1) 0 0) = TV.v (SV.ptr (0 + 1) 0 0) ∧
                                TV.v (SV.ptr (0 + 1 + 1) 0 0) = TV.v (SV.ptr (0 + 1 + 1) 0 0) ∧ TV.v (SV.val (Value.int IntKind.i64 0)) = TV.v (SV.val (Value.int IntKind.i64 0)) ∧ True) ∧
                          True ∧
                            ∀ (x_1 : ByteArray),
                              I2 x.snd x_1 →
                                needB (impB (decide ((↑x_1.size : Int) > 1)) (decide (0 < (↑x_1.size : Int))))
                                  (branch (decide ((↑x_1.size : Int) > 1) && byteI x_1 0 == 48)
                                    (needB (decide (1 ≤ (↑x_1.size : Int)))
                                      (∃ x' : ByteArray,
                                        I2 x.snd x' ∧
                                          x'.size < x_1.size ∧
                                            (TV.v (SV.val (Value.string (x_1.extract 1 x_1.size))) = TV.v (SV.val (Value.string x')) ∧
                                                TV.v (SV.ptr 0 0 0) = TV.v (SV.ptr 0 0 0) ∧
                                                  TV.v (SV.ptr (0 + 1) 0 0) = TV.v (SV.ptr (0 + 1) 0 0) ∧
                                                    TV.v (SV.ptr (0 + 1 + 1) 0 0) = TV.v (SV.ptr (0 + 1 + 1) 0 0) ∧
                                                      TV.v (SV.val (Value.int IntKind.i64 0)) = TV.v (SV.val (Value.int IntKind.i64 0)) ∧ True) ∧
                                              True ∧ True))
                                    (needB (i64 x3 && true)
                                      (needB (inR IntKind.i64 (1 + pickI x3 100))
                                        (needB (i64 x2 && true)
                                          (∃ x0_3 : Int × ByteArray,
                                            I1 (1 + pickI x3 100) (pickI x2 1000000007) x0_3.fst x0_3.snd ∧
                                              (TV.v (SV.val (Value.string { data := #[] })) = TV.v (SV.val (Value.string x0_3.snd)) ∧
                                                  TV.v (SV.val (Value.int IntKind.i64 (pickI x2 1000000007))) = TV.v (SV.val (Value.int IntKind.i64 x0_3.fst)) ∧
                                                    TV.v (SV.ptr 0 0 0) = TV.v (SV.ptr 0 0 0) ∧
                                                      TV.v (SV.ptr (0 + 1) 0 0) = TV.v (SV.ptr (0 + 1) 0 0) ∧
                                                        TV.v (SV.ptr (0 + 1 + 1) 0 0) = TV.v (SV.ptr (0 + 1 + 1) 0 0) ∧
                                                          TV.v (SV.val (Value.int IntKind.i64 (0 + 1))) = TV.v (SV.val (Value.int IntKind.i64 (0 + 1))) ∧
                                                            TV.v (SV.val (Value.int IntKind.i64 (1 + pickI x3 100))) = TV.v (SV.val (Value.int IntKind.i64 (1 + pickI x3 100))) ∧ True) ∧
                                                True ∧
                                                  ∀ (x : Int × ByteArray),
                                                    I1 (1 + pickI x3 100) (pickI x2 1000000007) x.fst x.snd →
                                                      branch (decide ((↑x.snd.size : Int) < 1 + pickI x3 100))
                                                        (needB (inR IntKind.i64 (x.fst * 48271))
                                                          (needB (inR IntKind.i64 (x.fst * 48271 + 11))
                                                            (needB (inR IntKind.i64 (((x.fst * 48271 + 11).tmod 2147483647).tdiv 65536))
                                                              (needB (inR IntKind.i64 (48 + (((x.fst * 48271 + 11).tmod 2147483647).tdiv 65536).tmod 10))
                                                                (needB (inR IntKind.u8 (48 + (((x.fst * 48271 + 11).tmod 2147483647).tdiv 65536).tmod 10))
                                                                  (needB
                                                                    (decide
                                                                      (x.snd.size + ({ data := #[UInt8.ofNat (48 + (((x.fst * 48271 + 11).tmod 2147483647).tdiv 65536).tmod 10).toNat] } : ByteArray).size ≤
                                                                        9223372036854775807))
                                                                    (∃ x' : Int × ByteArray,
                                                                      I1 (1 + pickI x3 100) (pickI x2 1000000007) x'.fst x'.snd ∧
                                                                        (200 - (↑x'.snd.size : Int)).toNat < (200 - (↑x.snd.size : Int)).toNat ∧
                                                                          (TV.v
                                                                                  (SV.val
                                                                                    (Value.string
                                                                                      (x.snd ++ { data := #[UInt8.ofNat (48 + (((x.fst * 48271 + 11).tmod 2147483647).tdiv 65536).tmod 10).toNat] }))) =
                                                                                TV.v (SV.val (Value.string x'.snd)) ∧
                                                                              TV.v (SV.val (Value.int IntKind.i64 ((x.fst * 48271 + 11).tmod 2147483647))) =
                                                                                  TV.v (SV.val (Value.int IntKind.i64 x'.fst)) ∧
                                                                                TV.v (SV.ptr 0 0 0) = TV.v (SV.ptr 0 0 0) ∧
                                                                                  TV.v (SV.ptr (0 + 1) 0 0) = TV.v (SV.ptr (0 + 1) 0 0) ∧
                                                                                    TV.v (SV.ptr (0 + 1 + 1) 0 0) = TV.v (SV.ptr (0 + 1 + 1) 0 0) ∧
                                                                                      TV.v (SV.val (Value.int IntKind.i64 (0 + 1))) = TV.v (SV.val (Value.int IntKind.i64 (0 + 1))) ∧
                                                                                        TV.v (SV.val (Value.int IntKind.i64 (1 + pickI x3 100))) =
                                                                                            TV.v (SV.val (Value.int IntKind.i64 (1 + pickI x3 100))) ∧
                                                                                          True) ∧
                                                                            True ∧ True)))))))
                                                        (∃ x0_4 : ByteArray,
                                                          I2 x.snd x0_4 ∧
                                                            (TV.v (SV.val (Value.string x.snd)) = TV.v (SV.val (Value.string x0_4)) ∧
                                                                TV.v (SV.ptr 0 0 0) = TV.v (SV.ptr 0 0 0) ∧
                                                                  TV.v (SV.ptr (0 + 1) 0 0) = TV.v (SV.ptr (0 + 1) 0 0) ∧
                                                                    TV.v (SV.ptr (0 + 1 + 1) 0 0) = TV.v (SV.ptr (0 + 1 + 1) 0 0) ∧
                                                                      TV.v (SV.val (Value.int IntKind.i64 (0 + 1))) = TV.v (SV.val (Value.int IntKind.i64 (0 + 1))) ∧ True) ∧
                                                              True ∧
                                                                ∀ (x_2 : ByteArray),
                                                                  I2 x.snd x_2 →
                                                                    needB (impB (decide ((↑x_2.size : Int) > 1)) (decide (0 < (↑x_2.size : Int))))
                                                                      (branch (decide ((↑x_2.size : Int) > 1) && byteI x_2 0 == 48)
                                                                        (needB (decide (1 ≤ (↑x_2.size : Int)))
                                                                          (∃ x' : ByteArray,
                                                                            I2 x.snd x' ∧
                                                                              x'.size < x_2.size ∧
                                                                                (TV.v (SV.val (Value.string (x_2.extract 1 x_2.size))) = TV.v (SV.val (Value.string x')) ∧
                                                                                    TV.v (SV.ptr 0 0 0) = TV.v (SV.ptr 0 0 0) ∧
                                                                                      TV.v (SV.ptr (0 + 1) 0 0) = TV.v (SV.ptr (0 + 1) 0 0) ∧
                                                                                        TV.v (SV.ptr (0 + 1 + 1) 0 0) = TV.v (SV.ptr (0 + 1 + 1) 0 0) ∧
                                                                                          TV.v (SV.val (Value.int IntKind.i64 (0 + 1))) = TV.v (SV.val (Value.int IntKind.i64 (0 + 1))) ∧ True) ∧
                                                                                  True ∧ True))
                                                                        (branch (seq x_2 { data := #[48] })
                                                                          (needB (i64 x0 && true)
                                                                            (branch (pickI x0 2 == 0 && !seq x_1 { data := #[48] })
                                                                              (needB (decide (1 + x_1.size ≤ 9223372036854775807))
                                                                                (needB (sz ({ data := #[45] } ++ x_1) && true)
                                                                                  (K
                                                                                    (SV.agg
                                                                                      [SV.val (Value.string (rMake ({ data := #[45] } ++ x_1) { data := #[55] }).fst.fst),
                                                                                        SV.val (Value.string (rMake ({ data := #[45] } ++ x_1) { data := #[55] }).fst.snd)]))))
                                                                              (needB (sz x_1 && true)
                                                                                (K
                                                                                  (SV.agg
                                                                                    [SV.val (Value.string (rMake x_1 { data := #[55] }).fst.fst),
                                                                                      SV.val (Value.string (rMake x_1 { data := #[55] }).fst.snd)])))))
                                                                          (needB (i64 x0 && true)
                                                                            (branch (pickI x0 2 == 0 && !seq x_1 { data := #[48] })
                                                                              (needB (decide (1 + x_1.size ≤ 9223372036854775807))
                                                                                (needB (sz ({ data := #[45] } ++ x_1) && sz x_2)
                                                                                  (K
                                                                                    (SV.agg
                                                                                      [SV.val (Value.string (rMake ({ data := #[45] } ++ x_1) x_2).fst.fst),
                                                                                        SV.val (Value.string (rMake ({ data := #[45] } ++ x_1) x_2).fst.snd)]))))
                                                                              (needB (sz x_1 && sz x_2)
                                                                                (K
                                                                                  (SV.agg
                                                                                    [SV.val (Value.string (rMake x_1 x_2).fst.fst), SV.val (Value.string (rMake x_1 x_2).fst.snd)])))))))))))))))))) := by kernel_rfl
theorem small_vc (I1 : Int → Int → Int → ByteArray → Prop) (I2 : ByteArray → ByteArray → Prop) (x0 x1 : Int) (K : SV → Prop) : runL I1 I2 28 [sv2 x0 x1] K = (
needB (i64 x0 && true)
  (needB (inR IntKind.i64 (pickI x0 1999 - 999))
    (needB (i64 x1 && true)
      (needB (inR IntKind.i64 (1 + pickI x1 60))
        (needB (i64 (pickI x0 1999 - 999) && i64 (1 + pickI x1 60))
          (K (SV.agg [SV.val (Value.string (rMk (pickI x0 1999 - 999) (1 + pickI x1 60)).fst.fst), SV.val (Value.string (rMk (pickI x0 1999 - 999) (1 + pickI x1 60)).fst.snd)]))))))) := by kernel_rfl
def lcg (c : Int) : Int := (c * 48271 + 11).tmod 2147483647
def lby (c : Int) : ByteArray := { data := #[UInt8.ofNat (48 + (c.tdiv 65536).tmod 10).toNat] }
/-- Digits, drawn. -/
def growF : Nat → Int → ByteArray → ByteArray
  | 0, _, s => s
  | k + 1, c, s => growF k (lcg c) (s ++ lby (lcg c))
/-- Zeros in front, taken off. -/
def trimF : Nat → ByteArray → ByteArray
  | 0, s => s
  | k + 1, s => if (decide ((s.size : Int) > 1) && byteI s 0 == 48) = true then trimF k (s.extract 1 s.size) else s
def J1 (n c0 c : Int) (s : ByteArray) : Prop := 0 ≤ c ∧ c < 2147483647 ∧ 0 ≤ n ∧ n ≤ 100 ∧ s.size ≤ n.toNat ∧ growF (n.toNat - s.size) c s = growF n.toNat c0 ByteArray.empty
def J2 (s0 x : ByteArray) : Prop := trimF x.size x = trimF s0.size s0 ∧ x.size ≤ s0.size
def drawn (n c0 : Int) : ByteArray := trimF (growF n.toNat c0 ByteArray.empty).size (growF n.toNat c0 ByteArray.empty)
def longF (x0 x1 x2 x3 : Int) : RS :=
  (rMake (bif pickI x0 2 == 0 && !seq (drawn (1 + pickI x1 100) (pickI x0 1000000007)) { data := #[48] } then { data := #[45] } ++ drawn (1 + pickI x1 100) (pickI x0 1000000007) else drawn (1 + pickI x1 100) (pickI x0 1000000007))
    (bif seq (drawn (1 + pickI x3 100) (pickI x2 1000000007)) { data := #[48] } then { data := #[55] } else drawn (1 + pickI x3 100) (pickI x2 1000000007))).1
theorem j1_start {n c0 : Int} (h : 0 ≤ c0) (h2 : c0 < 2147483647) (h3 : 0 ≤ n) (h4 : n ≤ 100) : J1 n c0 c0 { data := #[] } := ⟨h, h2, h3, h4, Nat.zero_le _, rfl⟩
theorem lcg_range {c : Int} (h : 0 ≤ c) : 0 ≤ lcg c ∧ lcg c < 2147483647 := by
  unfold lcg
  exact ⟨Int.tmod_nonneg _ (by omega), Int.tmod_lt_of_pos _ (by omega)⟩
theorem lby_size (c : Int) (s : ByteArray) : (s ++ lby c).size = s.size + 1 := by rw [ByteArray.size_append]; rfl
theorem j1_step {n c0 c : Int} {s : ByteArray} (h : J1 n c0 c s) (hs : (s.size : Int) < n) : J1 n c0 (lcg c) (s ++ lby (lcg c)) ∧ (200 - ((s ++ lby (lcg c)).size : Int)).toNat < (200 - (s.size : Int)).toNat := by
  obtain ⟨h1, h2, h3, h4, h5, h6⟩ := h
  have r := lcg_range h1
  rw [lby_size]
  refine ⟨⟨r.1, r.2, h3, h4, by rw [lby_size]; omega, ?_⟩, by omega⟩
  rw [lby_size, ← h6, show n.toNat - s.size = (n.toNat - (s.size + 1)) + 1 by omega]
  rfl
theorem j1_needs {n c0 c : Int} {s : ByteArray} (h : J1 n c0 c s) : inR IntKind.i64 (c * 48271) = true ∧ inR IntKind.i64 (c * 48271 + 11) = true ∧ inR IntKind.i64 (((c * 48271 + 11).tmod 2147483647).tdiv 65536) = true ∧
    inR IntKind.i64 (48 + (((c * 48271 + 11).tmod 2147483647).tdiv 65536).tmod 10) = true ∧ inR IntKind.u8 (48 + (((c * 48271 + 11).tmod 2147483647).tdiv 65536).tmod 10) = true ∧
    decide (s.size + ({ data := #[UInt8.ofNat (48 + (((c * 48271 + 11).tmod 2147483647).tdiv 65536).tmod 10).toNat] } : ByteArray).size ≤ 9223372036854775807) = true := by
  obtain ⟨h1, h2, h3, h4, h5, h6⟩ := h
  have r := lcg_range h1
  unfold lcg at r
  generalize (c * 48271 + 11).tmod 2147483647 = m at *
  have d0 : 0 ≤ m.tdiv 65536 := Int.tdiv_nonneg (by omega) (by omega)
  have d1 : m.tdiv 65536 ≤ m := by rw [Int.tdiv_eq_ediv_of_nonneg (by omega)]; exact Int.ediv_le_self _ (by omega)
  have e0 := Int.tmod_nonneg 10 d0
  have e1 := Int.tmod_lt_of_pos (m.tdiv 65536) (show (0 : Int) < 10 by omega)
  simp only [inR_iff, kLo, kHi]
  refine ⟨by omega, by omega, by omega, by omega, by omega, ?_⟩
  rw [decide_eq_true_eq]
  show s.size + 1 ≤ _
  omega
theorem j1_end {n c0 c : Int} {s : ByteArray} (h : J1 n c0 c s) (hs : ¬ (s.size : Int) < n) : s = growF n.toNat c0 ByteArray.empty ∧ s.size ≤ 100 := by
  obtain ⟨h1, h2, h3, h4, h5, h6⟩ := h
  have e : n.toNat - s.size = 0 := by omega
  rw [e] at h6
  exact ⟨h6, by omega⟩
theorem j2_start (s : ByteArray) : J2 s s := ⟨rfl, Nat.le_refl _⟩
theorem ext_size (x : ByteArray) : (x.extract 1 x.size).size = x.size - 1 := by rw [ByteArray.size_extract]; omega
theorem j2_step {s0 x : ByteArray} (h : J2 s0 x) (hb : (decide ((x.size : Int) > 1) && byteI x 0 == 48) = true) : J2 s0 (x.extract 1 x.size) ∧ (x.extract 1 x.size).size < x.size := by
  have hx : 1 < x.size := by
    simp only [Bool.and_eq_true, decide_eq_true_eq] at hb
    omega
  rw [ext_size]
  refine ⟨⟨?_, by rw [ext_size]; have := h.2; omega⟩, by omega⟩
  rw [← h.1, ext_size, show x.size = (x.size - 1) + 1 by omega]
  show _ = if _ then _ else _
  rw [if_pos hb]
  rfl
theorem j2_end {s0 x : ByteArray} (h : J2 s0 x) (hb : (decide ((x.size : Int) > 1) && byteI x 0 == 48) = false) : x = trimF s0.size s0 ∧ x.size ≤ s0.size := by
  refine ⟨?_, h.2⟩
  rw [← h.1]
  cases hs : x.size with
  | zero => rfl
  | succ k =>
    show _ = if _ then _ else _
    rw [if_neg (by rw [hb]; decide)]

def cLong : Ctr := fun args => match args with
  | [.agg [.val (.int .i64 a), .val (.int .i64 b), .val (.int .i64 c), .val (.int .i64 d)]] => some (i64 a && i64 b && i64 c && i64 d, .agg [.val (.string (longF a b c d).1), .val (.string (longF a b c d).2)])
  | _ => none
def smallF (a b : Int) : RS := (rMk (pickI a 1999 - 999) (1 + pickI b 60)).1
def cSmall : Ctr := fun args => match args with
  | [.agg [.val (.int .i64 a), .val (.int .i64 b)]] => some (i64 a && i64 b, .agg [.val (.string (smallF a b).1), .val (.string (smallF a b).2)])
  | _ => none
theorem sz_100 {s : ByteArray} (h : s.size ≤ 100) : sz s = true := sz_iff.2 (by unfold maxLen; omega)
theorem sz_neg {s : ByteArray} (h : s.size ≤ 100) : sz (({ data := #[45] } : ByteArray) ++ s) = true := sz_iff.2 (by
  rw [ByteArray.size_append]
  have : ({ data := #[45] } : ByteArray).size = 1 := rfl
  unfold maxLen; omega)
set_option maxRecDepth 100000 in
theorem long_runs (a b c d : Int) (ha : i64 a = true) (hb : i64 b = true) (hc : i64 c = true) (hd : i64 d = true) (K : SV → Prop) (hK : K (.agg [.val (.string (longF a b c d).1), .val (.string (longF a b c d).2)])) :
    runL J1 J2 12 [sv4 a b c d] K := by
  rw [long_vc]
  have p1 := pick_range b (n := 100) (by decide)
  have p2 := pick_range d (n := 100) (by decide)
  have p3 := pick_range a (n := 1000000007) (by decide)
  have p4 := pick_range c (n := 1000000007) (by decide)
  have r1 : inR IntKind.i64 (1 + pickI b 100) = true := inR_small (by omega) (by omega)
  have r2 : inR IntKind.i64 (1 + pickI d 100) = true := inR_small (by omega) (by omega)
  simp only [ha, hb, hc, hd, r1, r2, Bool.and_self, Bool.and_true, needB_true]
  refine ⟨(pickI a 1000000007, { data := #[] }), j1_start (by omega) (by omega) (by omega) (by omega), (by repeat' constructor), trivial, ?_⟩
  rintro ⟨cc, s⟩ h1
  dsimp only at h1 ⊢
  refine branch_iff.2 ⟨fun hlt => ?_, fun hge => ?_⟩
  · have hlt := of_decide_eq_true hlt
    obtain ⟨n1, n2, n3, n4, n5, n6⟩ := j1_needs h1
    obtain ⟨s1, s2⟩ := j1_step h1 hlt
    rw [n1, n2, n3, n4, n5, n6]
    exact ⟨(lcg cc, s ++ lby (lcg cc)), s1, s2, (by repeat' constructor), trivial, trivial⟩
  · have hge := of_decide_eq_false hge
    obtain ⟨e1, z1⟩ := j1_end h1 hge
    refine ⟨s, j2_start s, (by repeat' constructor), trivial, ?_⟩
    intro u h2
    have iu : impB (decide ((u.size : Int) > 1)) (decide (0 < (u.size : Int))) = true := by rw [impB_iff]; simp; omega
    rw [iu, needB_true]
    refine branch_iff.2 ⟨fun hb1 => ?_, fun hb1 => ?_⟩
    · obtain ⟨t1, t2⟩ := j2_step h2 hb1
      have q : decide (1 ≤ (u.size : Int)) = true := by
        simp only [Bool.and_eq_true, decide_eq_true_eq] at hb1 ⊢; omega
      rw [q, needB_true]
      exact ⟨u.extract 1 u.size, t1, t2, (by repeat' constructor), trivial, trivial⟩
    · obtain ⟨f1, f2⟩ := j2_end h2 hb1
      refine ⟨(pickI c 1000000007, { data := #[] }), j1_start (by omega) (by omega) (by omega) (by omega), (by repeat' constructor), trivial, ?_⟩
      rintro ⟨cc', s'⟩ h1'
      dsimp only at h1' ⊢
      refine branch_iff.2 ⟨fun hlt => ?_, fun hge => ?_⟩
      · have hlt := of_decide_eq_true hlt
        obtain ⟨n1, n2, n3, n4, n5, n6⟩ := j1_needs h1'
        obtain ⟨s1, s2⟩ := j1_step h1' hlt
        rw [n1, n2, n3, n4, n5, n6]
        exact ⟨(lcg cc', s' ++ lby (lcg cc')), s1, s2, (by repeat' constructor), trivial, trivial⟩
      · have hge := of_decide_eq_false hge
        obtain ⟨e2, z2⟩ := j1_end h1' hge
        refine ⟨s', j2_start s', (by repeat' constructor), trivial, ?_⟩
        intro v h2'
        have iv : impB (decide ((v.size : Int) > 1)) (decide (0 < (v.size : Int))) = true := by rw [impB_iff]; simp; omega
        rw [iv, needB_true]
        refine branch_iff.2 ⟨fun hb2 => ?_, fun hb2 => ?_⟩
        · obtain ⟨t1, t2⟩ := j2_step h2' hb2
          have q : decide (1 ≤ (v.size : Int)) = true := by
            simp only [Bool.and_eq_true, decide_eq_true_eq] at hb2 ⊢; omega
          rw [q, needB_true]
          exact ⟨v.extract 1 v.size, t1, t2, (by repeat' constructor), trivial, trivial⟩
        · obtain ⟨f3, f4⟩ := j2_end h2' hb2
          have eu : u = drawn (1 + pickI b 100) (pickI a 1000000007) := by rw [f1, e1]; rfl
          have ev : v = drawn (1 + pickI d 100) (pickI c 1000000007) := by rw [f3, e2]; rfl
          have su := sz_100 (s := u) (by omega)
          have sv := sz_100 (s := v) (by omega)
          have sn := sz_neg (s := u) (by omega)
          have bn : decide (1 + u.size ≤ 9223372036854775807) = true := by simp; omega
          simp only [su, sv, sn, bn, Bool.and_self, Bool.and_true, needB_true]
          unfold longF at hK
          rw [← eu, ← ev] at hK
          refine branch_iff.2 ⟨fun g1 => ?_, fun g1 => ?_⟩ <;> refine branch_iff.2 ⟨fun g2 => ?_, fun g2 => ?_⟩ <;> rw [g1, g2] at hK <;> exact hK
section
variable {W0 : World}
theorem gamL_ok : ∀ p ∈ gamL, CtrOK Tryz.prog W0 p.1 p.2 ∧ Callable Tryz.prog p.1 := by
  simp only [gamL, List.forall_mem_cons, List.forall_mem_nil]
  exact ⟨⟨ctrPick4, Tryz.call46⟩, ⟨ctrSSR fun a b w hb ha hb' => ref4Make_any a b w ha hb', Tryz.call39⟩, ⟨ctrIIR fun a b w hb ha hb' => ref4Of_any a b w ha.1 ha.2 hb'.1 hb'.2, Tryz.call42⟩, fun _ h => by cases h⟩
theorem ls_ok : ∀ f ∈ [12, 28], Callable Tryz.prog f := by
  simp only [List.forall_mem_cons, List.forall_mem_nil]; exact ⟨Tryz.call12, Tryz.call28, fun _ h => by cases h⟩
set_option maxRecDepth 100000 in
theorem ctrLong : CtrOK Tryz.prog W0 12 cLong := by
  refine ctr_of_run2 ls_ok (g := gamL) (ann := annL J1 J2) (n := 2) (fun _ _ => gamL_ok) ?_
  intro args b s h hb
  unfold cLong at h
  split at h
  · rename_i x y z t
    simp only [Option.some.injEq, Prod.mk.injEq] at h
    obtain ⟨rfl, rfl⟩ := h
    simp only [Bool.and_eq_true] at hb
    have hl := long_runs x y z t hb.1.1.1 hb.1.1.2 hb.1.2 hb.2 (fun r => r = .agg [.val (.string (longF x y z t).1), .val (.string (longF x y z t).2)]) (Eq.refl _)
    exact ⟨by simp [SV.ids, SV.idss], by simp [SV.ids, SV.idss], hl⟩
  · cases h
set_option maxRecDepth 100000 in
theorem ctrSmall : CtrOK Tryz.prog W0 28 cSmall := by
  refine ctr_of_run2 ls_ok (g := gamL) (ann := annL J1 J2) (n := 2) (fun _ _ => gamL_ok) ?_
  intro args b s h hb
  unfold cSmall at h
  split at h
  · rename_i x y
    simp only [Option.some.injEq, Prod.mk.injEq] at h
    obtain ⟨rfl, rfl⟩ := h
    simp only [Bool.and_eq_true] at hb
    refine ⟨by simp [SV.ids, SV.idss], by simp [SV.ids, SV.idss], ?_⟩
    have hs := small_vc J1 J2 x y (fun r => r = .agg [.val (.string (smallF x y).1), .val (.string (smallF x y).2)])
    have p1 := pick_range x (n := 1999) (by decide)
    have p2 := pick_range y (n := 60) (by decide)
    have r1 : inR IntKind.i64 (pickI x 1999 - 999) = true := inR_small (by omega) (by omega)
    have r2 : inR IntKind.i64 (1 + pickI y 60) = true := inR_small (by omega) (by omega)
    have r3 : i64 (pickI x 1999 - 999) = true := r1
    have r4 : i64 (1 + pickI y 60) = true := r2
    unfold runL at hs
    rw [hs]
    simp only [hb.1, hb.2, r1, r2, r3, r4, Bool.and_self, needB_true]
    rfl
  · cases h
theorem longF_sz (a b c d : Int) : sz (longF a b c d).1 = true ∧ sz (longF a b c d).2 = true := by
  unfold longF
  rw [rMake_eq]
  split
  · exact rMk_sz _ _
  · exact no_sz
theorem smallF_sz (a b : Int) : sz (smallF a b).1 = true ∧ sz (smallF a b).2 = true := rMk_sz _ _
end
end Go.Proofs.YtgeoidnleagloaaGreatDoor
