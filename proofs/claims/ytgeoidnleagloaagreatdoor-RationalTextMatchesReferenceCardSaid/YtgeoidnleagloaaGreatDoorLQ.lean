/- Arguments without addresses opened: whatever structs and arrays of integers, Bools and texts. Over any program. -/
import Derived.Test.YtgeoidnleagloaaGreatDoorLO
set_option linter.unusedVariables false
set_option linter.unusedSimpArgs false
namespace Yk
open Go Go.RowKit Go.ChangeShapes Go.WideShapes

/-- What one cell holds. -/
inductive Leaf where
  | int (k : IntKind)
  | bool
  | str
def Leaf.ok : Leaf → Value → Prop
  | .int k, v => ∃ z, v = .int k z ∧ k.min ≤ z ∧ z ≤ k.max
  | .bool, v => ∃ b, v = .bool b
  | .str, v => ∃ s : ByteArray, v = .string s ∧ s.size ≤ maxLen
/-- Cells, leaf for leaf. -/
def okL : List Leaf → List Value → Prop
  | [], [] => True
  | l :: ls, v :: vs => l.ok v ∧ okL ls vs
  | _, _ => False
theorem okL_length : ∀ {ls : List Leaf} {vs : List Value}, okL ls vs → vs.length = ls.length
  | [], [], _ => rfl
  | _ :: _, _ :: _, h => by simp [okL_length h.2]
  | [], _ :: _, h => h.elim
  | _ :: _, [], h => h.elim
theorem okL_append : ∀ {a b : List Leaf} {u v : List Value}, okL a u → okL b v → okL (a ++ b) (u ++ v)
  | [], _, [], _, _, h => h
  | _ :: _, _, _ :: _, _, h, k => ⟨h.1, okL_append h.2 k⟩
  | [], _, _ :: _, _, h, _ => h.elim
  | _ :: _, _, [], _, h, _ => h.elim

/-- A struct or an array? -/
def aggB (P : Program) (t : TypeId) : Bool := match P.underlying t with
  | some (.struct _) => true
  | some (.array _ _) => true
  | _ => false
def leavesF (P : Program) (g : TypeId → Option (List Leaf)) : List Field → Nat → Option (List Leaf)
  | [], _ => some []
  | f :: fs, off => match g f.type with
    | some l => if P.cellsOf f.type = l.length ∧ f.offset = off then (match leavesF P g fs (off + l.length) with
      | some r => some (l ++ r)
      | none => none) else none
    | none => none
/-- The cells of a type that has no addresses. -/
def leaves (P : Program) : Nat → TypeId → Option (List Leaf)
  | 0, _ => none
  | d + 1, t => match P.underlying t with
    | some .bool => some [.bool]
    | some (.int k) => some [.int k]
    | some .string => some [.str]
    | some (.array n e) => match leaves P d e with
      | some l => if P.cellsOf e = l.length ∧ P.cellsOf t = n * l.length then some (List.replicate n l).flatten else none
      | none => none
    | some (.struct fs) => match leavesF P (leaves P d) fs.toList 0 with
      | some l => if P.cellsOf t = l.length then some l else none
      | none => none
    | _ => none

section
variable {H : Type} {enc : TypeId × Value → H} {P : Program} {w : World} {base : Nat} {spare : Nat → Bool} {held : Bool}

theorem rows_ok {l : List Leaf} : ∀ (n : Nat) (cs : List Value), cs.length = n * l.length → (∀ i, i < n → okL l ((cs.drop (i * l.length)).take l.length)) → okL (List.replicate n l).flatten cs
  | 0, cs, hl, _ => by
    have : cs = [] := List.eq_nil_of_length_eq_zero (by omega)
    subst this; trivial
  | n + 1, cs, hl, h => by
    rw [List.replicate_succ, List.flatten_cons, ← List.take_append_drop l.length cs]
    refine okL_append (by simpa using h 0 (by omega)) (rows_ok n _ (by rw [List.length_drop, hl, Nat.add_mul]; omega) fun i hi => ?_)
    have := h (i + 1) (by omega)
    rw [List.drop_drop]
    rwa [Nat.add_mul, Nat.one_mul, Nat.add_comm] at this

theorem open_leavesF {g : TypeId → Option (List Leaf)} (hg : ∀ {fuel : Nat} {t : TypeId} {cs : List Value} {x : DataW H × List MemPlace} {l : List Leaf}, g t = some l → DataW.trod enc P w base spare held fuel t cs = some x → okL l cs) :
    ∀ {fs : List Field} {off : Nat} {cs : List Value} {l : List Leaf}, leavesF P g fs off = some l → off + l.length ≤ cs.length →
    (∀ f ∈ fs, ∃ fuel x, DataW.trod enc P w base spare held fuel f.type ((cs.drop f.offset).take (P.cellsOf f.type)) = some x) → okL l ((cs.drop off).take l.length)
  | [], off, cs, l, h, _, _ => by simp [leavesF] at h; subst h; simp [okL]
  | f :: fs, off, cs, l, h, hl, hf => by
    rw [leavesF] at h
    split at h
    · rename_i a ha
      split at h
      · rename_i hc
        split at h
        · rename_i r hr
          cases h
          simp only [List.length_append] at hl ⊢
          obtain ⟨fuel, x, h1⟩ := hf f (by simp)
          rw [hc.1, hc.2] at h1
          have h2 := open_leavesF hg hr (cs := cs) (by omega) (fun g hg => hf g (List.mem_cons_of_mem _ hg))
          rw [List.take_add, List.drop_drop]
          exact okL_append (hg ha h1) h2
        · cases h
      · cases h
    · cases h
theorem open_leaves : ∀ (d : Nat) {fuel : Nat} {t : TypeId} {cs : List Value} {x : DataW H × List MemPlace} {l : List Leaf}, leaves P d t = some l → DataW.trod enc P w base spare held fuel t cs = some x → okL l cs
  | 0, _, _, _, _, _, h, _ => by simp [leaves] at h
  | d + 1, fuel, t, cs, x, l, h, hx => by
    rw [leaves] at h
    split at h
    · rename_i ht
      obtain ⟨b, rfl, _⟩ := DataW.trod_bool ht hx
      cases h; exact ⟨⟨b, rfl⟩, trivial⟩
    · rename_i k ht
      obtain ⟨z, rfl, _, hw⟩ := DataW.trod_int ht hx
      cases h
      simp only [Lit.wf, Bool.and_eq_true, decide_eq_true_eq] at hw
      exact ⟨⟨z, rfl, hw⟩, trivial⟩
    · rename_i ht
      obtain ⟨s, rfl, _, hs⟩ := DataW.trod_string ht hx
      cases h; exact ⟨⟨s, rfl, hs⟩, trivial⟩
    · rename_i n e ht
      split at h
      · rename_i le hle
        split at h
        · rename_i hc
          cases h
          obtain ⟨xs, m, _, _, hl, hn, hel⟩ := DataW.trod_array ht hx
          rw [hc.2] at hl
          rw [hc.1] at hel
          refine rows_ok n cs hl fun i hi => ?_
          have := hel i hi
          rw [List.getElem?_eq_getElem (by omega)] at this
          exact open_leaves d hle this
        · cases h
      · cases h
    · rename_i fs ht
      split at h
      · rename_i lf hlf
        split at h
        · rename_i hc
          cases h
          obtain ⟨xs, m, _, _, hl, hn, hel⟩ := DataW.trod_struct ht hx
          rw [hc] at hl
          have := open_leavesF (g := leaves P d) (fun h1 h2 => open_leaves d h1 h2) (fs := fs.toList) (off := 0) (cs := cs) hlf (by omega) (fun f hf => by
            obtain ⟨i, hi, e⟩ := List.getElem_of_mem hf
            have h1 := hel i f (by rw [← Array.getElem?_toList]; rw [List.getElem?_eq_getElem hi, e])
            rw [List.getElem?_eq_getElem (by simp at hi; omega)] at h1
            exact ⟨_, _, h1⟩)
          rwa [List.drop_zero, List.take_of_length_le (by omega)] at this
        · cases h
      · cases h
    · cases h
/-- A struct or an array without addresses. -/
theorem open_flat {r : Reach} {b0 : Nat} {v : Value} {dd : DataW H} {ps : List MemPlace} {t : TypeId} {l : List Leaf} (ht : aggB P t = true) (h : leaves P 9 t = some l) (hval : Value.okWide P w r b0 t v)
    (hd : DataW.Trod enc P w base spare held t v dd ps) : ∃ cs : List Value, v = .agg cs.toArray ∧ okL l cs := by
  have hv : ∃ cs : Array Value, v = .agg cs := by
    unfold aggB at ht
    simp only [Value.okWide] at hval
    split at ht <;> rename_i hu <;> simp only [hu] at hval
    · obtain ⟨cs, rfl, _⟩ := hval; exact ⟨cs, rfl⟩
    · obtain ⟨cs, rfl, _⟩ := hval; exact ⟨cs, rfl⟩
    · cases ht
  obtain ⟨cs, rfl⟩ := hv
  obtain ⟨fuel, hf⟩ := hd
  exact ⟨cs.toList, by simp, open_leaves 9 h hf⟩
/-- A text. -/
theorem open_str {r : Reach} {b0 : Nat} {v : Value} {dd : DataW H} {ps : List MemPlace} {t : TypeId} (ht : P.underlying t = some .string) (hval : Value.okWide P w r b0 t v)
    (hd : DataW.Trod enc P w base spare held t v dd ps) : ∃ s : ByteArray, v = .string s ∧ s.size ≤ maxLen := by
  obtain ⟨s, rfl⟩ := okWide_string ht hval
  obtain ⟨fuel, hf⟩ := hd
  obtain ⟨s', h1, _, h2⟩ := DataW.trod_string ht hf
  simp [Value.cells] at h1
  subst h1
  exact ⟨s, rfl, h2⟩
/-- A machine integer of whatever kind. -/
theorem open_intk {r : Reach} {b0 : Nat} {v : Value} {dd : DataW H} {ps : List MemPlace} {t : TypeId} {k : IntKind} (ht : P.underlying t = some (.int k)) (hval : Value.okWide P w r b0 t v)
    (hd : DataW.Trod enc P w base spare held t v dd ps) : ∃ z : Int, v = .int k z ∧ k.min ≤ z ∧ z ≤ k.max := by
  obtain ⟨x, rfl, _, _, w0⟩ := open_int ht hval hd
  simp only [Lit.wf, Bool.and_eq_true, decide_eq_true_eq] at w0
  exact ⟨x, rfl, w0⟩
end
end Yk
namespace Yk
open Go Go.RowKit Go.ChangeShapes Go.WideShapes
theorem okL_str {v : Value} (h : Leaf.ok .str v) : ∃ s : ByteArray, v = .string s ∧ s.size ≤ maxLen := h
theorem okL_int {k : IntKind} {v : Value} (h : Leaf.ok (.int k) v) : ∃ z, v = .int k z ∧ k.min ≤ z ∧ z ≤ k.max := h
theorem okL_cons {l : Leaf} {ls : List Leaf} {vs : List Value} (h : okL (l :: ls) vs) : ∃ v r, vs = v :: r ∧ l.ok v ∧ okL ls r := by
  match vs, h with
  | v :: r, h => exact ⟨v, r, rfl, h.1, h.2⟩
theorem okL_nil {vs : List Value} (h : okL [] vs) : vs = [] := by
  match vs, h with
  | [], _ => rfl
/-- A struct of two texts. -/
theorem open_str2 {H : Type} {enc : TypeId × Value → H} {P : Program} {w : World} {base : Nat} {spare : Nat → Bool} {held : Bool} {r : Reach} {b0 : Nat} {v : Value} {dd : DataW H} {ps : List MemPlace} {t : TypeId} (ht : aggB P t = true) (h : leaves P 9 t = some [.str, .str]) (hval : Value.okWide P w r b0 t v)
    (hd : DataW.Trod enc P w base spare held t v dd ps) : ∃ a b : ByteArray, v = .agg #[.string a, .string b] ∧ a.size ≤ maxLen ∧ b.size ≤ maxLen := by
  obtain ⟨cs, rfl, hc⟩ := open_flat ht h hval hd
  obtain ⟨_, _, rfl, ⟨a, rfl, ha⟩, h1⟩ := okL_cons hc
  obtain ⟨_, _, rfl, ⟨b, rfl, hb⟩, h2⟩ := okL_cons h1
  obtain rfl := okL_nil h2
  exact ⟨a, b, rfl, ha, hb⟩
end Yk
