/- The law RationalMatchesReference: its run yields true. -/
import Derived.Test.YtgeoidnleagloaaGreatDoorLX
set_option linter.unusedVariables false
set_option linter.unusedSimpArgs false
namespace Go.Proofs.YtgeoidnleagloaaGreatDoor
open Go Go.RowKit Go.Sy Yk
theorem law_runB {w : World} (hg : Glob w) {ann : FuncId → Nat → Option Ann} {n : Nat} {f : FuncId} {args : List SV} (ha : SV.idss args = []) (h : Box (runR ann n f args Yes)) {vs : Array Value} (hv : (SV.concs noLoc args).toArray = vs) :
    Calls Tryz.prog f vs w fun e w' => e = .returned (.bool true) ∧ Below w.heap.size w w' := by
  subst hv
  exact law_runR hg ha h.out
set_option maxRecDepth 100000 in
theorem match_any (xa xb ya yb : ByteArray) (l0 l1 l2 l3 m0 m1 m2 m3 s0 s1 n d p : Int) (l0l : -9223372036854775808 ≤ l0) (l0h : l0 ≤ 9223372036854775807) (l1l : -9223372036854775808 ≤ l1) (l1h : l1 ≤ 9223372036854775807) (l2l : -9223372036854775808 ≤ l2) (l2h : l2 ≤ 9223372036854775807) (l3l : -9223372036854775808 ≤ l3) (l3h : l3 ≤ 9223372036854775807) (m0l : -9223372036854775808 ≤ m0) (m0h : m0 ≤ 9223372036854775807) (m1l : -9223372036854775808 ≤ m1) (m1h : m1 ≤ 9223372036854775807) (m2l : -9223372036854775808 ≤ m2) (m2h : m2 ≤ 9223372036854775807) (m3l : -9223372036854775808 ≤ m3) (m3h : m3 ≤ 9223372036854775807) (s0l : -9223372036854775808 ≤ s0) (s0h : s0 ≤ 9223372036854775807) (s1l : -9223372036854775808 ≤ s1) (s1h : s1 ≤ 9223372036854775807) (nl : -9223372036854775808 ≤ n) (nh : n ≤ 9223372036854775807) (dl : -9223372036854775808 ≤ d) (dh : d ≤ 9223372036854775807) (pl : -9223372036854775808 ≤ p) (ph : p ≤ 9223372036854775807) (w : World) (hg : Glob w) :
    Calls Tryz.prog 6 #[.agg #[.string xa, .string xb], .agg #[.string ya, .string yb], .agg #[.int .i64 l0, .int .i64 l1, .int .i64 l2, .int .i64 l3], .agg #[.int .i64 m0, .int .i64 m1, .int .i64 m2, .int .i64 m3], .agg #[.int .i64 s0, .int .i64 s1], .int .i64 n, .int .i64 d, .int .i64 p] w fun e w' => e = .returned (.bool true) ∧ Below w.heap.size w w' := by
  have I : ∀ {n : Int}, -9223372036854775808 ≤ n → n ≤ 9223372036854775807 → i64 n = true := fun a b => i64_iff.2 ⟨a, b⟩
  exact law_runB hg rfl (match_runs xa xb ya yb l0 l1 l2 l3 m0 m1 m2 m3 s0 s1 n d p (by simp only [I l0l l0h, I l1l l1h, I l2l l2h, I l3l l3h, Bool.and_self]) (by simp only [I m0l m0h, I m1l m1h, I m2l m2h, I m3l m3h, Bool.and_self]) (by simp only [I s0l s0h, I s1l s1h, Bool.and_self]) (I nl nh) (I dl dh) (I pl ph)) (by kernel_rfl)
end Go.Proofs.YtgeoidnleagloaaGreatDoor
