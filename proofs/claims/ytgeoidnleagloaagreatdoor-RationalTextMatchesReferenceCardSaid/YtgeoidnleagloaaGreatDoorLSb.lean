/- The laws' helpers by the symbolic run: is, minus, sane; all contracts. -/
import Derived.Test.YtgeoidnleagloaaGreatDoorLSa
set_option linter.unusedVariables false
set_option linter.unusedSimpArgs false
namespace Go.Proofs.YtgeoidnleagloaaGreatDoor
open Go Go.RowKit Go.Sy Yk
section
variable {W0 : World}

theorem is_vc (a b : ByteArray) (K : SV → Prop) : inlN Tryz.prog (oneOf oks) (lookG gam0) (lookM gamM) (fun _ _ => none) 2 24 [.val (.string a), .val (.string b)] (fun _ => none) 0 [] (fun r _ _ _ => K r) =
    K (.agg [.val (.string a), .val (.string b)]) := by kernel_rfl
theorem ctrIs (hg : Glob W0) : CtrOK Tryz.prog W0 24 cIs := by
  refine ctr_of_run (g := gam0) (ann := fun _ _ => none) (n := 2) (fun W hb => gam0_ok (hg.below hb)) ?_
  intro args b s h hb
  unfold cIs at h
  split at h
  · rename_i x y
    simp only [Option.some.injEq, Prod.mk.injEq] at h
    obtain ⟨_, rfl⟩ := h
    refine ⟨by simp [SV.ids, SV.idss], by simp [SV.ids, SV.idss], ?_⟩
    rw [is_vc x y (fun r => r = _)]
  · cases h
def gam1 : List (FuncId × Ctr) := (24, cIs) :: gam0
theorem gam1_ok (hg : Glob W0) : ∀ p ∈ gam1, CtrOK Tryz.prog W0 p.1 p.2 ∧ Callable Tryz.prog p.1 := cons_ok (ctrIs hg) Tryz.call24 (gam0_ok hg)

theorem minus_vc (a b : ByteArray) (K : SV → Prop) : inlN Tryz.prog (oneOf oks) (lookG gam1) (lookM gamM) (fun _ _ => none) 2 45 [.agg [.val (.string a), .val (.string b)]] (fun _ => none) 0 [] (fun r _ _ _ => K r) =
    needB (sz a && sz b) (K (svR (rSub (⟨#[48]⟩, ⟨#[49]⟩) (a, b)).1)) := by kernel_rfl
theorem zero_lit : (({ data := #[48] } : ByteArray), ({ data := #[49] } : ByteArray)) = rZero := by unfold rZero; rw [ofI_zero, ofI_one]
theorem ctrMinus (hg : Glob W0) : CtrOK Tryz.prog W0 45 (cRR1 fun a => (rSub rZero a).1) := by
  refine ctr_of_run (g := gam1) (ann := fun _ _ => none) (n := 2) (fun W hb => gam1_ok (hg.below hb)) ?_
  intro args b s h hb
  unfold cRR1 at h
  split at h
  · rename_i x y
    simp only [Option.some.injEq, Prod.mk.injEq] at h
    obtain ⟨rfl, rfl⟩ := h
    refine ⟨by simp [SV.ids, SV.idss], by simp [svR, SV.ids, SV.idss], ?_⟩
    rw [minus_vc x y (fun r => r = _), needB_iff, zero_lit]
    exact ⟨hb, rfl⟩
  · cases h
theorem sane_vc (K : SV → Prop) : inlN Tryz.prog (oneOf oks) (lookG gam1) (lookM gamM) (fun _ _ => none) 2 11 [] (fun _ => none) 0 [] (fun r _ _ _ => K r) = K (.val (.bool true)) := by kernel_rfl
theorem ctrSane (hg : Glob W0) : CtrOK Tryz.prog W0 11 cTrue := by
  refine ctr_of_run (g := gam1) (ann := fun _ _ => none) (n := 2) (fun W hb => gam1_ok (hg.below hb)) ?_
  intro args b s h hb
  unfold cTrue at h
  split at h
  · simp only [Option.some.injEq, Prod.mk.injEq] at h
    obtain ⟨_, rfl⟩ := h
    exact ⟨by simp [SV.idss], by simp [SV.ids], by rw [sane_vc (fun r => r = _)]⟩
  · cases h
/-- All contracts. -/
def gam : List (FuncId × Ctr) := (11, cTrue) :: (45, cRR1 fun a => (rSub rZero a).1) :: gam1
theorem hyp (hg : Glob W0) : Hyp Tryz.prog W0 (oneOf oks) (lookG gam) (lookM gamM) :=
  hyp_of (cons_ok (ctrSane hg) Tryz.call11 (cons_ok (ctrMinus hg) Tryz.call45 (gam1_ok hg))) gamM_ok oks_ok mixed
end
end Go.Proofs.YtgeoidnleagloaaGreatDoor
