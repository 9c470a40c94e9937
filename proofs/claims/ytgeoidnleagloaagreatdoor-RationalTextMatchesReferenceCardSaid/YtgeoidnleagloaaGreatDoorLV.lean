/- What all laws' runs need: sizes of texts, words of the symbolic run. -/
import Derived.Test.YtgeoidnleagloaaGreatDoorLSb
import Derived.Test.YtgeoidnleagloaaGreatDoorLJ
set_option linter.unusedVariables false
set_option linter.unusedSimpArgs false
namespace Go.Proofs.YtgeoidnleagloaaGreatDoor
open Go.RowKit Go.Sy Yk

/-- The symbolic run of a function of this program. -/
abbrev runS (ann : FuncId → Nat → Option Ann) (n : Nat) (f : FuncId) (args : List SV) (K : SV → Prop) : Prop := inlN Tryz.prog (oneOf oks) (lookG gam) (lookM gamM) ann n f args (fun _ => none) 0 [] fun r _ _ _ => K r
abbrev svI (a : Int) : SV := .val (.int .i64 a)
abbrev sv2 (a b : Int) : SV := .agg [.val (.int .i64 a), .val (.int .i64 b)]
abbrev sv4 (a b c d : Int) : SV := .agg [.val (.int .i64 a), .val (.int .i64 b), .val (.int .i64 c), .val (.int .i64 d)]

/-- What a law's run is to yield. -/
def Yes (r : SV) : Prop := r.ids = [] ∧ r = .val (.bool true)
theorem yes_iff {b : Bool} : Yes (.val (.bool b)) ↔ b = true := by
  unfold Yes
  simp [SV.ids]

theorem law_run {w : World} (hg : Glob w) {ann : FuncId → Nat → Option Ann} {n : Nat} {f : FuncId} {args : List SV} (ha : SV.idss args = []) (h : runS ann n f args Yes) :
    Calls Tryz.prog f (SV.concs noLoc args).toArray w fun e w' => e = .returned (.bool true) ∧ Below w.heap.size w w' := by
  refine (run_pure (hyp hg) ann n f args ha (fun r => r = .val (.bool true)) h).mono ?_
  rintro e w' ⟨r, rfl, _, rfl, hb⟩
  exact ⟨rfl, hb⟩

theorem needB_true {K : Prop} : needB true K = K := rfl
theorem impB_iff {g n : Bool} : impB g n = true ↔ (g = true → n = true) := by cases g <;> cases n <;> simp [impB]
theorem impB_true {g : Bool} : impB g true = true := rfl

theorem sz_of {s : ByteArray} (h : vS s = true) : sz s = true := sz_iff.2 (size_vS h)
theorem sz_empty : sz ByteArray.empty = true := by decide
theorem rMk_sz (n d : Int) : sz (rMk n d).1.1 = true ∧ sz (rMk n d).1.2 = true := by
  rcases rMk_cases n d with ⟨_, _, _, h⟩ | ⟨_, h⟩
  · have := rV_parts h.valid
    exact ⟨sz_of this.1, sz_of this.2.1⟩
  · rw [h]; exact ⟨sz_empty, sz_empty⟩
theorem no_sz : sz ((noR, (40 : Int)).1.1) = true ∧ sz ((noR, (40 : Int)).1.2) = true := ⟨sz_empty, sz_empty⟩
theorem rAdd_sz (a b : RS) : sz (rAdd a b).1.1 = true ∧ sz (rAdd a b).1.2 = true := by unfold rAdd; split; exact rMk_sz _ _; exact no_sz
theorem rSub_sz (a b : RS) : sz (rSub a b).1.1 = true ∧ sz (rSub a b).1.2 = true := by unfold rSub; split; exact rMk_sz _ _; exact no_sz
theorem rMul_sz (a b : RS) : sz (rMul a b).1.1 = true ∧ sz (rMul a b).1.2 = true := by unfold rMul; split; exact rMk_sz _ _; exact no_sz
theorem rDiv_sz (a b : RS) : sz (rDiv a b).1.1 = true ∧ sz (rDiv a b).1.2 = true := by unfold rDiv; split; exact rMk_sz _ _; exact no_sz
theorem rDown_sz (a : RS) (p : Int) : sz (rDown a p).1.1 = true ∧ sz (rDown a p).1.2 = true := by unfold rDown; split; exact rMk_sz _ _; exact no_sz
theorem rUp_sz (a : RS) (p : Int) : sz (rUp a p).1.1 = true ∧ sz (rUp a p).1.2 = true := by unfold rUp; split; exact rMk_sz _ _; exact no_sz
theorem sz_48 : sz ⟨#[48]⟩ = true := by decide
theorem sz_49 : sz ⟨#[49]⟩ = true := by decide
theorem sz_few {k : Nat} {q : Rat} (h : Few k q) (hk : k ≤ 200) : sz (rT q).1 = true ∧ sz (rT q).2 = true := by
  have := rV_parts (h.rT hk).1
  exact ⟨sz_of this.1, sz_of this.2.1⟩
theorem seq2 {a b : RS} : (seq a.1 b.1 && (seq a.2 b.2 && true)) = decide (a = b) := by
  rw [Bool.eq_iff_iff]
  simp only [Bool.and_true, Bool.and_eq_true, seq_iff, decide_eq_true_eq]
  exact ⟨fun ⟨h1, h2⟩ => Prod.ext h1 h2, fun h => by rw [h]; exact ⟨rfl, rfl⟩⟩
theorem cmp_i64 {a b : RS} : -1 ≤ rCmp a b ∧ rCmp a b ≤ 1 := by
  unfold rCmp
  split
  · rcases cmpQ_range (qV a) (qV b) with h | h | h <;> rw [h] <;> decide
  · decide
theorem inR_small {z : Int} (h1 : -1000000 ≤ z) (h2 : z ≤ 1000000) : inR .i64 z = true := by
  rw [inR_iff]; simp only [kLo, kHi]; omega
end Go.Proofs.YtgeoidnleagloaaGreatDoor
