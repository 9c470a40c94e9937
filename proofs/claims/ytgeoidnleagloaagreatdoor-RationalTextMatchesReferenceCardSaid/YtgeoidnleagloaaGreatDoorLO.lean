/- Arguments opened: arrays of integers, pairs of strings; arguments read behind the call as before. Over any program. -/
import Derived.ProofKit
import Derived.OpenShut
import Derived.Carry
set_option linter.unusedVariables false
set_option linter.unusedSimpArgs false
namespace Yk
open Go Go.RowKit Go.ChangeShapes Go.WideShapes
section
variable {H : Type} {enc : TypeId × Value → H} {P : Program} {w : World} {base b0 : Nat} {spare : Nat → Bool} {held : Bool} {r : Reach} {v : Value} {d : DataW H} {ps : List MemPlace}

theorem ints_of {e : TypeId} {k : IntKind} {m : Nat} (he : P.underlying e = some (.int k)) : ∀ (cs : List Value) (xs : List (DataW H × List MemPlace)), cs.length = xs.length →
    (∀ i, i < xs.length → DataW.trod enc P w base spare held m e ((cs.drop i).take 1) = xs[i]?) → ∃ zs : List Int, cs = zs.map (Value.int k) ∧ ∀ z ∈ zs, (Lit.int k z).wf = true
  | [], [], _, _ => ⟨[], rfl, by simp⟩
  | c :: cs, x :: xs, hl, h => by
    have h0 := h 0 (by simp)
    simp only [List.drop_zero, List.take_succ_cons, List.take_zero, List.getElem?_cons_zero] at h0
    obtain ⟨z, e1, _, wz⟩ := DataW.trod_int he h0
    obtain ⟨zs, i1, i3⟩ := ints_of he cs xs (by simpa using hl) (fun i hi => by have := h (i + 1) (by simpa using hi); simpa using this)
    refine ⟨z :: zs, ?_, ?_⟩
    · simp only [List.cons.injEq, and_true] at e1
      rw [e1, i1]; rfl
    · intro y hy
      rcases List.mem_cons.1 hy with rfl | hy
      · exact wz
      · exact i3 y hy
/-- An array of integers. -/
theorem open_ints {t e : TypeId} {n : Nat} {k : IntKind} (ht : P.underlying t = some (.array n e)) (he : P.underlying e = some (.int k)) (ce : P.cellsOf e = 1) (ct : P.cellsOf t = n)
    (hval : Value.okWide P w r b0 t v) (hd : DataW.Trod enc P w base spare held t v d ps) : ∃ zs : List Int, v = .agg (zs.map (Value.int k)).toArray ∧ zs.length = n ∧ ∀ z ∈ zs, (Lit.int k z).wf = true := by
  simp only [Value.okWide, ht] at hval
  obtain ⟨cs, rfl, hcs, _⟩ := hval
  obtain ⟨fuel, hf⟩ := hd
  obtain ⟨xs, m, _, _, hl, hn, hel⟩ := DataW.trod_array ht hf
  rw [ce] at hel
  simp only [Value.cells, Nat.mul_one] at hel hl
  obtain ⟨zs, h1, h2⟩ := ints_of he cs.toList xs (by rw [hl, hn, ct]) (fun i hi => hel i (by omega))
  refine ⟨zs, by rw [← h1], ?_, h2⟩
  have := congrArg List.length h1
  rw [List.length_map] at this
  omega
theorem i64_bounds {z : Int} (h : (Lit.int .i64 z).wf = true) : -9223372036854775808 ≤ z ∧ z ≤ 9223372036854775807 := bounds_i64 h
theorem open_ints4 {t e : TypeId} (ht : P.underlying t = some (.array 4 e)) (he : P.underlying e = some (.int .i64)) (ce : P.cellsOf e = 1) (ct : P.cellsOf t = 4)
    (hval : Value.okWide P w r b0 t v) (hd : DataW.Trod enc P w base spare held t v d ps) : ∃ x0 x1 x2 x3 : Int, v = .agg #[.int .i64 x0, .int .i64 x1, .int .i64 x2, .int .i64 x3] ∧
      (-9223372036854775808 ≤ x0 ∧ x0 ≤ 9223372036854775807) ∧ (-9223372036854775808 ≤ x1 ∧ x1 ≤ 9223372036854775807) ∧ (-9223372036854775808 ≤ x2 ∧ x2 ≤ 9223372036854775807) ∧ (-9223372036854775808 ≤ x3 ∧ x3 ≤ 9223372036854775807) := by
  obtain ⟨zs, rfl, hl, hw⟩ := open_ints ht he ce ct hval hd
  match zs, hl, hw with
  | [x0, x1, x2, x3], _, hw => exact ⟨x0, x1, x2, x3, rfl, i64_bounds (hw x0 (by simp)), i64_bounds (hw x1 (by simp)), i64_bounds (hw x2 (by simp)), i64_bounds (hw x3 (by simp))⟩
theorem open_ints2 {t e : TypeId} (ht : P.underlying t = some (.array 2 e)) (he : P.underlying e = some (.int .i64)) (ce : P.cellsOf e = 1) (ct : P.cellsOf t = 2)
    (hval : Value.okWide P w r b0 t v) (hd : DataW.Trod enc P w base spare held t v d ps) : ∃ x0 x1 : Int, v = .agg #[.int .i64 x0, .int .i64 x1] ∧
      (-9223372036854775808 ≤ x0 ∧ x0 ≤ 9223372036854775807) ∧ (-9223372036854775808 ≤ x1 ∧ x1 ≤ 9223372036854775807) := by
  obtain ⟨zs, rfl, hl, hw⟩ := open_ints ht he ce ct hval hd
  match zs, hl, hw with
  | [x0, x1], _, hw => exact ⟨x0, x1, rfl, i64_bounds (hw x0 (by simp)), i64_bounds (hw x1 (by simp))⟩
end
/-- All arguments read behind the call as before. -/
theorem all_stays {H : Type} {enc : TypeId × Value → H} {P : Program} (hl : laidOutB P = true) {W W' : World} (hb : Below W.heap.size W W') : ∀ (ts : List TypeId) (vs : List Value) (ds : List (DataW H)) (p : List MemPlace),
    (∀ t ∈ ts, P.readableRec t = true ∧ t < P.types.size) → (∀ x ∈ p, x.block < W.heap.size) → DataW.TrodAll enc P W 0 (fun _ => true) true ts vs ds p → DataW.TrodAll enc P W' 0 (fun b => decide (b < W.heap.size)) true ts vs ds p
  | [], [], [], _, _, _, h => h
  | t :: ts, v :: vs, d :: ds, _, hr, hp, h => by
    obtain ⟨p, q, h1, h2, rfl⟩ := h
    exact ⟨p, q, Below.trod hl (hr t (by simp)).1 (hr t (by simp)).2 h1 hb (fun x hx => hp x (by simp [hx])), all_stays hl hb ts vs ds q (fun t ht => hr t (by simp [ht])) (fun x hx => hp x (by simp [hx])) h2, rfl⟩
  | [], [], _ :: _, _, _, _, h => h.elim
  | [], _ :: _, _, _, _, _, h => h.elim
  | _ :: _, [], _, _, _, _, h => h.elim
  | _ :: _, _ :: _, [], _, _, _, h => h.elim
end Yk
