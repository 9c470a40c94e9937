/- The comparisons with the reference: all contracts, what is known at the heads of the loops. -/
import Derived.Test.YtgeoidnleagloaaGreatDoorLL
set_option linter.unusedVariables false
set_option linter.unusedSimpArgs false
namespace Go.Proofs.YtgeoidnleagloaaGreatDoor
open Go Go.RowKit Go.Sy Yk

section
variable {W0 : World}
/-- All contracts, with Long and Small as functions of their integers. -/
def gamR : List (FuncId × Ctr) := (12, cLong) :: (28, cSmall) :: gamP
theorem hypR (hg : Glob W0) : Hyp Tryz.prog W0 (oneOf oks) (lookG gamR) (lookM []) :=
  hyp_of (cons_ok ctrLong Tryz.call12 (cons_ok ctrSmall Tryz.call28 (cons_ok (ctrPick hg) Tryz.call18 (cons_ok (ctrSane hg) Tryz.call11 (cons_ok (ctrMinus hg) Tryz.call45 (gam1_ok hg)))))) (fun _ h => by cases h) oks_ok mixed
end
abbrev runR (ann : FuncId → Nat → Option Ann) (n : Nat) (f : FuncId) (args : List SV) (K : SV → Prop) : Prop := inlN Tryz.prog (oneOf oks) (lookG gamR) (lookM []) ann n f args (fun _ => none) 0 [] fun r _ _ _ => K r
theorem law_runR {w : World} (hg : Glob w) {ann : FuncId → Nat → Option Ann} {n : Nat} {f : FuncId} {args : List SV} (ha : SV.idss args = []) (h : runR ann n f args Yes) :
    Calls Tryz.prog f (SV.concs noLoc args).toArray w fun e w' => e = .returned (.bool true) ∧ Below w.heap.size w w' := by
  refine (run_pure (hypR hg) ann n f args ha (fun r => r = .val (.bool true)) h).mono ?_
  rintro e w' ⟨r, rfl, _, rfl, hb⟩
  exact ⟨rfl, hb⟩
def annA (A : Nat → RS) (id : Nat) (slot : Nat) (keep : List Nat) : Ann := { X := Int, inv := fun _ i => 0 ≤ i ∧ i ≤ 5, tm := fun i => [(slot, .val (.int .i64 i))], bk := fun _ => [(id, fun e => [.val (.string (A e).1), .val (.string (A e).2)])], mu := fun i => (5 - i).toNat, keep := keep, clean := fun x p e h => by rw [List.mem_singleton.1 h]; rfl }
def annM (A : Nat → RS) (id : Nat) : FuncId → Nat → Option Ann := fun f k => bif Nat.beq f 6 then
    (bif Nat.beq k 6 then some (annA A id 19 [5, 6, 7, 17, 18]) else bif Nat.beq k 9 then some (annA A id 20 [5, 6, 7, 17, 18, 19]) else none) else none
abbrev svR2 (a : RS) : SV := .agg [.val (.string a.1), .val (.string a.2)]
end Go.Proofs.YtgeoidnleagloaaGreatDoor
