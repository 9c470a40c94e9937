/- The laws' drawn number: pick, by the run; all contracts with it. -/
import Derived.Test.YtgeoidnleagloaaGreatDoorLV
set_option linter.unusedVariables false
set_option linter.unusedSimpArgs false
namespace Go.Proofs.YtgeoidnleagloaaGreatDoor
open Go Go.RowKit Go.Sy Yk

/-- A number drawn from an integer: 0 .. n-1. -/
def pickI (c n : Int) : Int := (if c < 0 then -(c + 1) else c).tmod n
def cPick : Ctr := fun args => match args with
  | [.val (.int .i64 c), .val (.int .i64 n)] => some (i64 c && decide (0 < n), .val (.int .i64 (pickI c n)))
  | _ => none
theorem pick_vc (a b : Int) (K : SV → Prop) : inlN Tryz.prog (oneOf oks) (lookG gam0) (lookM gamM) (fun _ _ => none) 2 18 [.val (.int .i64 a), .val (.int .i64 b)] (fun _ => none) 0 [] (fun r _ _ _ => K r) =
    branch (decide (a < 0)) (needB (inR IntKind.i64 (a + 1)) (needB (inR IntKind.i64 (-(a + 1))) (needB (!decide (b = 0)) (K (SV.val (Value.int IntKind.i64 ((-(a + 1)).tmod b)))))))
  (needB (!decide (b = 0)) (K (SV.val (Value.int IntKind.i64 (a.tmod b))))) := by kernel_rfl
theorem pick_range (c : Int) {n : Int} (h : 0 < n) : 0 ≤ pickI c n ∧ pickI c n < n := by
  unfold pickI
  have h0 : 0 ≤ (if c < 0 then -(c + 1) else c) := by split <;> omega
  exact ⟨Int.tmod_nonneg _ h0, Int.tmod_lt_of_pos _ h⟩
section
variable {W0 : World}
theorem ctrPick (hg : Glob W0) : CtrOK Tryz.prog W0 18 cPick := by
  refine ctr_of_run (g := gam0) (ann := fun _ _ => none) (n := 2) (fun W hb => gam0_ok (hg.below hb)) ?_
  intro args b s h hb
  unfold cPick at h
  split at h
  · rename_i c n
    simp only [Option.some.injEq, Prod.mk.injEq] at h
    obtain ⟨rfl, rfl⟩ := h
    simp only [Bool.and_eq_true, i64_iff, decide_eq_true_eq] at hb
    refine ⟨by simp [SV.ids, SV.idss], by simp [SV.ids, SV.idss], ?_⟩
    rw [pick_vc c n (fun r => r = _)]
    unfold pickI
    rw [branch_iff]
    simp only [needB_iff, decide_eq_true_eq, decide_eq_false_iff_not, inR_iff, kLo, kHi, Bool.not_eq_true']
    refine ⟨fun h => ⟨by omega, by omega, by omega, by rw [if_pos h]⟩, fun h => ⟨by omega, by rw [if_neg h]⟩⟩
  · cases h
/-- All contracts, and pick. -/
def gamP : List (FuncId × Ctr) := (18, cPick) :: gam
theorem hypP (hg : Glob W0) : Hyp Tryz.prog W0 (oneOf oks) (lookG gamP) (lookM gamM) :=
  hyp_of (cons_ok (ctrPick hg) Tryz.call18 (cons_ok (ctrSane hg) Tryz.call11 (cons_ok (ctrMinus hg) Tryz.call45 (gam1_ok hg)))) gamM_ok oks_ok mixed
end
abbrev runP (ann : FuncId → Nat → Option Ann) (n : Nat) (f : FuncId) (args : List SV) (K : SV → Prop) : Prop := inlN Tryz.prog (oneOf oks) (lookG gamP) (lookM gamM) ann n f args (fun _ => none) 0 [] fun r _ _ _ => K r
theorem law_runP {w : World} (hg : Glob w) {ann : FuncId → Nat → Option Ann} {n : Nat} {f : FuncId} {args : List SV} (ha : SV.idss args = []) (h : runP ann n f args Yes) :
    Calls Tryz.prog f (SV.concs noLoc args).toArray w fun e w' => e = .returned (.bool true) ∧ Below w.heap.size w w' := by
  refine (run_pure (hypP hg) ann n f args ha (fun r => r = .val (.bool true)) h).mono ?_
  rintro e w' ⟨r, rfl, _, rfl, hb⟩
  exact ⟨rfl, hb⟩
end Go.Proofs.YtgeoidnleagloaaGreatDoor
