/- The comparison of texts with the reference: one more contract. -/
import Derived.Test.YtgeoidnleagloaaGreatDoorLXa
set_option linter.unusedVariables false
set_option linter.unusedSimpArgs false
namespace Go.Proofs.YtgeoidnleagloaaGreatDoor
open Go Go.RowKit Go.Sy Yk

/-- The first bytes of a text. -/
def cutN (n : Int) (a : ByteArray) : ByteArray := a.extract 0 (if n < (a.size : Int) then n else (a.size : Int)).toNat
def cCut : Ctr := fun args => match args with
  | [.agg [.val (.string a), .val (.string b)]] => some (true, .agg [.val (.string (cutN 210 a)), .val (.string (cutN 210 b))])
  | _ => none
theorem cutN_needs (n : Int) (hn : 0 ≤ n) (a : ByteArray) : (decide (0 ≤ if n < (a.size : Int) then n else (a.size : Int)) && decide ((if n < (a.size : Int) then n else (a.size : Int)) ≤ (a.size : Int))) = true := by
  simp only [Bool.and_eq_true, decide_eq_true_eq]
  split <;> omega
theorem cut_vc (a b : ByteArray) (K : SV → Prop) : runR (fun _ _ => none) 4 13 [.agg [.val (.string a), .val (.string b)]] K =
    needB (decide (0 ≤ if 210 < (a.size : Int) then 210 else (a.size : Int)) && decide ((if 210 < (a.size : Int) then 210 else (a.size : Int)) ≤ (a.size : Int)))
      (needB (decide (0 ≤ if 210 < (b.size : Int) then 210 else (b.size : Int)) && decide ((if 210 < (b.size : Int) then 210 else (b.size : Int)) ≤ (b.size : Int)))
        (K (.agg [.val (.string (cutN 210 a)), .val (.string (cutN 210 b))]))) := by kernel_rfl
section
variable {W0 : World}
set_option maxRecDepth 100000 in
theorem ctrCut (hg : Glob W0) : CtrOK Tryz.prog W0 13 cCut := by
  intro β w args b s hb hk hn
  unfold cCut at hk
  split at hk
  · rename_i x y
    simp only [Option.some.injEq, Prod.mk.injEq] at hk
    obtain ⟨rfl, rfl⟩ := hk
    refine ⟨by simp [SV.ids, SV.idss], ?_⟩
    have h : runR (fun _ _ => none) 4 13 [.agg [.val (.string x), .val (.string y)]] (fun r => r.ids = [] ∧ r = .agg [.val (.string (cutN 210 x)), .val (.string (cutN 210 y))]) := by
      rw [cut_vc, cutN_needs 210 (by decide) x, cutN_needs 210 (by decide) y]
      exact ⟨by simp [SV.ids, SV.idss], rfl⟩
    have k := run_pure (hypR (hg.below hb)) (fun _ _ => none) 4 13 [.agg [.val (.string x), .val (.string y)]] (by simp [SV.idss, SV.ids]) (fun r => r = .agg [.val (.string (cutN 210 x)), .val (.string (cutN 210 y))]) h
    refine Calls.mono (P := Tryz.prog) (f := 13) (args := #[.agg #[.string x, .string y]]) (w := w) k ?_
    rintro e w' ⟨r, rfl, _, rfl, hb'⟩
    exact ⟨rfl, hb'⟩
  · cases hk
/-- All contracts, with cut. -/
def gamT : List (FuncId × Ctr) := (13, cCut) :: gamR
theorem hypT (hg : Glob W0) : Hyp Tryz.prog W0 (oneOf oks) (lookG gamT) (lookM []) :=
  hyp_of (cons_ok (ctrCut hg) Tryz.call13 (cons_ok ctrLong Tryz.call12 (cons_ok ctrSmall Tryz.call28 (cons_ok (ctrPick hg) Tryz.call18 (cons_ok (ctrSane hg) Tryz.call11 (cons_ok (ctrMinus hg) Tryz.call45 (gam1_ok hg))))))) (fun _ h => by cases h) oks_ok mixed
end
abbrev runT (ann : FuncId → Nat → Option Ann) (n : Nat) (f : FuncId) (args : List SV) (K : SV → Prop) : Prop := inlN Tryz.prog (oneOf oks) (lookG gamT) (lookM []) ann n f args (fun _ => none) 0 [] fun r _ _ _ => K r
/-- A statement that is not to be laid open. -/
structure BoxT (p : Prop) : Prop where
  out : p
theorem law_runT {w : World} (hg : Glob w) {ann : FuncId → Nat → Option Ann} {n : Nat} {f : FuncId} {args : List SV} (ha : SV.idss args = []) (h : BoxT (runT ann n f args Yes)) {vs : Array Value} (hv : (SV.concs noLoc args).toArray = vs) :
    Calls Tryz.prog f vs w fun e w' => e = .returned (.bool true) ∧ Below w.heap.size w w' := by
  subst hv
  refine (run_pure (hypT hg) ann n f args ha (fun r => r = .val (.bool true)) h.out).mono ?_
  rintro e w' ⟨r, rfl, _, rfl, hb⟩
  exact ⟨rfl, hb⟩
end Go.Proofs.YtgeoidnleagloaaGreatDoor
