/- WL: WA WB WC WD WE WF WG WH in one text. -/
import Derived.WalkKit
import Derived.WalkSpells
import Derived.WalkLawsBesides
import Derived.Lib.Hide
import Derived.Maps.AppendAt
import Derived.Test.YtgeoidnleagloaaGreatDoorPL
import Derived.Laws.AppendOwnNone
import Derived.RangeFuncBox
import Derived.OwnWalkIn
import Derived.RangeFuncCalls
import Derived.Deep.RegionHeld
import Derived.Lib.OthersKept
set_option linter.unusedVariables false
set_option linter.unusedSimpArgs false
/- Aids for walks: slices that read as lists, rows that a call owns and appends to. Over any program. -/
namespace Go.RowKit
theorem Below.drewN {B : Nat} {a w : World} (h : Below B a w) (n : Nat) : Below B a (w.drewN n) := ⟨h.os, h.tape, h.output, h.size, h.block⟩
end Go.RowKit
namespace Yk
open Go Go.RowKit

theorem ret_val {a b : Value} (h : a = b) : Ending.returned a = .returned b := by rw [h]
theorem ret_pair {a b c d : Value} (h : a = b) (k : c = d) : Ending.returned (.tuple #[a, c]) = .returned (.tuple #[b, d]) := by rw [h, k]
theorem ret_triple {a b c d e f : Value} (h : a = b) (k : c = d) (l : e = f) : Ending.returned (.tuple #[a, c, e]) = .returned (.tuple #[b, d, f]) := by rw [h, k, l]
theorem bool_eq {p q : Prop} [Decidable p] [Decidable q] (h : p ↔ q) : Value.bool (decide p) = .bool (decide q) := by rw [decide_eq_decide.2 h]
theorem ret_bool {a b : Bool} (h : a = b) : Ending.returned (.bool a) = .returned (.bool b) := by rw [h]
theorem ret_str {a b : ByteArray} (h : a = b) : Ending.returned (.string a) = .returned (.string b) := by rw [h]
theorem ret_i64 {a b : Int} (h : a = b) : Ending.returned (.int .i64 a) = .returned (.int .i64 b) := by rw [h]

/-- All old cells and marks read as before. -/
theorem bcell {W w1 : World} (hb : Below W.heap.size W w1) :
    (∀ b o, b < W.heap.size → w1.cell? ⟨b, o, none⟩ = W.cell? ⟨b, o, none⟩) ∧ (∀ b o, b < W.heap.size → w1.frozen? ⟨b, o, none⟩ = W.frozen? ⟨b, o, none⟩) :=
  ⟨fun b o h => hb.cell (p := ⟨b, o, none⟩) h, fun b o h => hb.frozen (p := ⟨b, o, none⟩) h⟩

/-- The row v, of the call's own from block B on, holds l. -/
def OwnL {α : Type} (enc : α → Value) (e : TypeId) (w : World) (B : Nat) (v : Value) (l : List α) : Prop :=
  w.ownsRow B e 1 v l.length (l.map enc)
/-- The slice v reads as l. -/
def Rd {α : Type} (enc : α → Value) (w : World) (v : Value) (l : List α) : Prop :=
  (v = .slice none 0 0 ∧ l = []) ∨
  ∃ b off cap, v = .slice (some ⟨b, off, none⟩) l.length cap ∧ b < w.heap.size ∧ l.length ≤ cap ∧ cap ≤ 9223372036854775807 ∧
    ∀ i x, l[i]? = some x → w.cell? ⟨b, off + i, none⟩ = some (enc x)

section
variable {α : Type} {enc : α → Value} {e : TypeId} {w : World} {B : Nat} {v : Value} {l : List α}

theorem OwnL.nil (w : World) (B : Nat) : OwnL enc e w B (.slice none 0 0) [] := World.ownsRow_nil w B e 1
theorem OwnL.alloc (h : OwnL enc e w B v l) (o : Obj) : OwnL enc e (w.alloc o) B v l := World.ownsRow.alloc h o
theorem OwnL.drew (h : OwnL enc e w B v l) : OwnL enc e w.drew B v l := h
theorem OwnL.rd (h : OwnL enc e w B v l) : Rd enc w v l := by
  obtain ⟨h1, h2⟩ := h
  rcases h2 with ⟨rfl, h3⟩ | ⟨g, cap, cur, rfl, hb, hg, h4, h5, h6, h7⟩
  · exact .inl ⟨rfl, List.eq_nil_of_length_eq_zero h3⟩
  · refine .inr ⟨g, 0, cap, rfl, (Array.getElem?_eq_some_iff.1 hg).1, h4, by simpa [maxLen] using h5, fun i x hx => ?_⟩
    rw [Nat.zero_add, cell_of_row w g i cur e (0, 0) hg]
    have : (l.map enc)[i]? = some (enc x) := by rw [List.getElem?_map, hx]; rfl
    rw [← h7, List.getElem?_take] at this
    split at this
    · simpa using this
    · cases this
/-- A slice that reads as l, with its address open. -/
theorem Rd.open' (h : Rd enc w v l) : ∃ a cap, v = .slice a l.length cap ∧ l.length ≤ cap ∧ cap ≤ 9223372036854775807 ∧
    ∀ (i : Nat) (hi : i < l.length), ∃ b off, a = some ⟨b, off, none⟩ ∧ b < w.heap.size ∧ w.cell? ⟨b, off + i, none⟩ = some (enc l[i]) := by
  rcases h with ⟨rfl, rfl⟩ | ⟨b, off, cap, rfl, h1, h2, h3, h4⟩
  · exact ⟨none, 0, rfl, Nat.le_refl _, by decide, fun i hi => absurd hi (by simp)⟩
  · exact ⟨_, cap, rfl, h2, h3, fun i hi => ⟨b, off, rfl, h1, h4 i _ (List.getElem?_eq_getElem hi)⟩⟩
/-- Its address. -/
theorem Rd.addr {a : Option Addr} {n cap : Nat} (h : Rd enc w (.slice a n cap) l) : (a = none → cap = 0) ∧ (∀ x, a = some x → ∃ b off, x = ⟨b, off, none⟩ ∧ b < w.heap.size) := by
  rcases h with ⟨h1, _⟩ | ⟨b, off, c, h1, h2, _⟩
  · injection h1 with e1 e2 e3; subst e1; subst e3; exact ⟨fun _ => rfl, fun x hx => by cases hx⟩
  · injection h1 with e1 e2 e3; subst e1; exact ⟨fun hx => (by cases hx), fun x hx => by cases hx; exact ⟨b, off, rfl, h2⟩⟩
/-- The first k of a slice that reads as l. -/
theorem Rd.take_of {a : Option Addr} {k cap : Nat} (hk : k ≤ l.length) (hc : k ≤ cap) (hc2 : cap ≤ 9223372036854775807)
    (hcell : ∀ (i : Nat) (hi : i < l.length), ∃ b off, a = some ⟨b, off, none⟩ ∧ b < w.heap.size ∧ w.cell? ⟨b, off + i, none⟩ = some (enc l[i])) (hn : a = none → cap = 0) (hs : ∀ x, a = some x → ∃ b off, x = ⟨b, off, none⟩ ∧ b < w.heap.size) :
    Rd enc w (.slice a k cap) (l.take k) := by
  cases a with
  | none =>
    obtain rfl := hn rfl
    obtain rfl : k = 0 := by omega
    exact .inl ⟨rfl, by simp⟩
  | some x =>
    obtain ⟨b, off, rfl, hb⟩ := hs x rfl
    refine .inr ⟨b, off, cap, by rw [List.length_take, Nat.min_eq_left hk], hb, by rw [List.length_take]; omega, hc2, fun i y hy => ?_⟩
    have hi : i < l.length := by
      have := (List.getElem?_eq_some_iff.1 hy).1
      rw [List.length_take] at this; omega
    obtain ⟨b', off', h1, h2, h3⟩ := hcell i hi
    injection h1 with h1; injection h1 with e1 e2; subst e1; subst e2
    rw [h3]
    rw [List.getElem?_take] at hy
    split at hy
    · rw [List.getElem?_eq_getElem hi] at hy; cases hy; rfl
    · cases hy
theorem Rd.below {w' : World} (h : Rd enc w v l) (hb : Below w.heap.size w w') : Rd enc w' v l := by
  rcases h with h | ⟨b, off, cap, rfl, h1, h2, h3, h4⟩
  · exact .inl h
  · exact .inr ⟨b, off, cap, rfl, Nat.lt_of_lt_of_le h1 hb.size, h2, h3, fun i x hx => (hb.cell (p := ⟨b, off + i, none⟩) h1).trans (h4 i x hx)⟩
theorem OwnL.belowTo {w' : World} (h : OwnL enc e w B v l) (hb : Below w.heap.size w w') : OwnL enc e w' B v l := by
  obtain ⟨h1, h2⟩ := h
  refine ⟨h1, ?_⟩
  rcases h2 with h2 | ⟨g, cap, cur, rfl, hB, hg, h4⟩
  · exact .inl h2
  · exact .inr ⟨g, cap, cur, rfl, hB, (hb.block g (Array.getElem?_eq_some_iff.1 hg).1).trans hg, h4⟩

theorem cell_new1 (w : World) (u : Value) (t : TypeId) : (w.alloc (.cells #[u] t)).cell? ⟨w.heap.size, 0, none⟩ = some u := by
  rw [cell_of_row _ w.heap.size 0 #[u] t (0, 0) (heap_alloc_new w _)]
  rfl
/-- The slice's array is none, or lies in a block from B on. -/
def From (B : Nat) (v : Value) : Prop := ∀ k, v.ownBlock = some k → B ≤ k
theorem From.mono {B B' : Nat} {v : Value} (h : From B v) (hB : B' ≤ B) : From B' v := fun k hk => Nat.le_trans hB (h k hk)
theorem From.len {B : Nat} {a : Option Addr} {n c n' c' : Nat} (h : From B (.slice a n c)) : From B (.slice a n' c') := by
  cases a with
  | none => intro k hk; cases hk
  | some x => intro k hk; exact h k hk
theorem From.nil (B : Nat) : From B (.slice none 0 0) := fun k hk => by cases hk
theorem OwnL.from (h : OwnL enc e w B v l) : From B v := fun k hk => (World.ownsRow.lt h k hk).1
theorem Rd.setCell {a : Addr} {C : Nat} (h : Rd enc w v l) (hf : From C v) (ha : a.block < C) (u : Value) : Rd enc (w.setCell a u) v l := by
  rcases h with h | ⟨b, off, cap, rfl, h1, h2, h3, h4⟩
  · exact .inl h
  · have hb := hf b rfl
    refine .inr ⟨b, off, cap, rfl, by simpa [World.setCell] using h1, h2, h3, fun i x hx => ?_⟩
    have := World.cell?_of_block (w := w) (w' := w.setCell a u) (a := ⟨b, off + i, none⟩) (Below.heap_setCell _ _ _ _ (by simp; omega))
    exact this.trans (h4 i x hx)
/-- 'append(out, x)' onto a row of the call's own. -/
theorem wpList_app1 {P : Program} {ops : Array Oper} {rest : List Oper} {o : Oper} {a : Act} {Q : Exit → Act → World → Prop} (hgd : o.guard = none) (s x : Operand) (t : TypeId)
    (ho : o.op = .call { callee := .builtin .append, args := #[s, x], argTypes := #[t, t] })
    (z : Value) (bytes : Nat) (ht : P.underlying t = some (.slice e)) (hinf : (P.info? e).map (fun i => (i.zero, i.size, i.bytes)) = some (some z, 1, bytes)) (hzs : z.cells.size = 1)
    (h1 : ∀ x, (enc x).oneCell' = true) (hs : a.eval s = v) (hown : OwnL enc e w B v l) (ad : Addr) (c : Nat) (u : Value) (hx : a.eval x = .slice (some ad) 1 c) (hc : w.cell? ad = some u) (y : α) (hu : u = enc y)
    (hlen : l.length + 1 ≤ 1099511627776) (hby : bytes ≤ 128) (hB : B ≤ w.heap.size)
    (h : ∀ v' w', OwnL enc e w' B v' (l ++ [y]) → Below B w w' → wpList P ops Q rest (a.put o.dst v') w') : wpList P ops Q (o :: rest) a w := by
  subst hu
  obtain ⟨i, hi, hz, hsz, hbt⟩ := info_parts hinf
  refine wpList_append_own w hgd s x t ho B e i z 1 bytes ht hi hz hsz hbt hzs (by decide) v l.length (l.map enc) hs hown ad 1 c [enc y] hx rfl ?_ ?_ ?_ ?_ hB ?_
  · intro j u hu
    cases j with
    | zero => simp at hu; subst hu; simpa [Addr.add] using hc
    | succ j => simp at hu
  · intro u hu; simp at hu; subst hu; exact h1 _
  · simp only [maxLen]; omega
  · have := Nat.mul_le_mul hlen hby; omega
  · intro v' w' k1 k2 _
    refine h v' w' (by simpa [OwnL] using k1) ?_
    exact (Below.refl B w).grown k2 hB (fun k hk => (World.ownsRow.lt hown k hk).1)
end
/-- An int in a cell. -/
abbrev encN (x : Nat) : Value := .int .i64 (x : Int)
theorem int_eq {k : IntKind} {a b : Int} (h : a = b) : Value.int k a = .int k b := by rw [h]
theorem encN_one (x : Nat) : (encN x).oneCell' = true := rfl
end Yk
/- Aids for walks: rows of a call's own that are stored into, or made with a size. Over any program. -/
namespace Yk
open Go Go.RowKit
section
variable {α : Type} {enc : α → Value} {e : TypeId} {w : World} {B g n cap : Nat} {l : List α}
theorem OwnL.row (h : OwnL enc e w B (.slice (some ⟨g, 0, none⟩) n cap) l) : n = l.length ∧ B ≤ g ∧ g < w.heap.size ∧
    ∃ cur : Array Value, w.heap[g]? = some (.cells cur e (0, 0)) ∧ l.length ≤ cap ∧ cap ≤ maxLen ∧ cur.size = cap ∧ cur.toList.take l.length = l.map enc := by
  obtain ⟨h1, h2⟩ := h
  rcases h2 with ⟨h3, _⟩ | ⟨g', cap', cur, hv, hb, hg, h4, h5, h6, h7⟩
  · cases h3
  · injection hv with e1 e2 e3
    injection e1 with e1; injection e1 with e1
    subst e1; subst e2; subst e3
    exact ⟨rfl, hb, (Array.getElem?_eq_some_iff.1 hg).1, cur, hg, h4, h5, by simpa using h6, by simpa using h7⟩
theorem OwnL.cell (h : OwnL enc e w B (.slice (some ⟨g, 0, none⟩) n cap) l) (j : Nat) (hj : j < l.length) : w.cell? ⟨g, j, none⟩ = some (enc l[j]) := by
  obtain ⟨_, _, _, cur, hg, _, _, _, h7⟩ := h.row
  rw [cell_of_row w g j cur e (0, 0) hg]
  have : (l.map enc)[j]? = some (enc l[j]) := by rw [List.getElem?_map, List.getElem?_eq_getElem hj]; rfl
  rw [← h7, List.getElem?_take, if_pos hj] at this
  simpa using this
theorem OwnL.free (h : OwnL enc e w B (.slice (some ⟨g, 0, none⟩) n cap) l) (j : Nat) : w.frozen? ⟨g, j, none⟩ = false := by
  obtain ⟨_, _, _, cur, hg, _⟩ := h.row
  exact frozen_of_row w g j cur e hg
theorem OwnL.set (h : OwnL enc e w B (.slice (some ⟨g, 0, none⟩) n cap) l) (j : Nat) (hj : j < l.length) (x : α) {u : Value} (hu : u = enc x) :
    OwnL enc e (w.setCell ⟨g, j, none⟩ u) B (.slice (some ⟨g, 0, none⟩) n cap) (l.set j x) := by
  subst hu
  obtain ⟨rfl, hb, _, cur, hg, h4, h5, h6, h7⟩ := h.row
  refine ⟨by simp, .inr ⟨g, cap, cur.setIfInBounds j (enc x), by rw [List.length_set], hb, ?_, by simpa using h4, h5, by simpa using h6, ?_⟩⟩
  · simp [World.setCell, Array.getElem?_modify, hg]
  · rw [List.length_set, Nat.mul_one, List.map_set, ← h7]
    rw [Array.toList_setIfInBounds, List.take_set]
/-- A store into another block. -/
theorem OwnL.setOther {v : Value} (h : OwnL enc e w B v l) {a : Addr} (ha : a.block < B) (u : Value) : OwnL enc e (w.setCell a u) B v l :=
  ownsRow_setCell_below h ha u
theorem map_replicate_enc (z : α) (n : Nat) : (List.replicate n z).map enc = List.replicate n (enc z) := by simp
/-- 'make([]T, n)'. -/
theorem wpList_makeN {P : Program} {ops : Array Oper} {rest : List Oper} {o : Oper} {a : Act} {Q : Exit → Act → World → Prop} (hgd : o.guard = none) (lo c : Operand) (t : TypeId) (hop : o.op = Op.makeSlice t lo c)
    (z : α) (bytes : Nat) (ht : P.underlying t = some (.slice e)) (hinf : (P.info? e).map (fun i => (i.zero, i.size, i.bytes)) = some (some (enc z), 1, bytes)) (hzs : (enc z).cells = #[enc z])
    (kl kc : IntKind) (L C : Int) (n : Nat) (hl : a.eval lo = .int kl L) (hc : a.eval c = .int kc C) (hL : L = (n : Int)) (hC : C = (n : Int)) (hn : n ≤ 1099511627776) (hby : bytes ≤ 128) (hB : B ≤ w.heap.size)
    (h : ∀ w', OwnL enc e w' B (.slice (some ⟨w.heap.size, 0, none⟩) n n) (List.replicate n z) → Below w.heap.size w w' → wpList P ops Q rest (a.put o.dst (.slice (some ⟨w.heap.size, 0, none⟩) n n)) w') :
    wpList P ops Q (o :: rest) a w := by
  obtain ⟨i, hi, hz, hsz, hbt⟩ := info_parts hinf
  refine wpList_make_full w hgd lo c t hop B e i (enc z) 1 ht hi hz hsz kl kc L C n hl hc hL hC (by rw [hbt]; have := Nat.mul_le_mul hby hn; omega) (by simp only [maxLen]; omega) hB ?_
  intro w' k1 k2
  refine h w' ?_ ((Below.refl _ w).grown k2 (Nat.le_refl _) (fun k hk => by cases hk))
  have e1 : (madeCells (enc z).cells (n * 1)).toList = (List.replicate n z).map enc := by
    rw [hzs, map_replicate_enc]
    apply List.ext_getElem
    · simp [madeCells]
    · intro j h1 h2; simp [madeCells, Nat.mod_one]
  rw [e1] at k1
  unfold OwnL
  rw [List.length_replicate]
  exact k1
end
end Yk
/- Aids for walks: 'append(xs, ys...)' onto a row of the call's own, from any slice that reads as a list. Over any program. -/
namespace Yk
open Go Go.RowKit
section
variable {α : Type} {enc : α → Value} {e : TypeId} {w : World} {B g n cap : Nat} {l : List α}
/-- A literal of one element. -/
theorem OwnL.lit1 (w : World) (x : α) {u : Value} (hu : u = enc x) : OwnL enc e (w.alloc (.cells #[u] e)) w.heap.size (.slice (some ⟨w.heap.size, 0, none⟩) 1 1) [x] := by
  subst hu
  exact ⟨rfl, .inr ⟨w.heap.size, 1, #[enc x], rfl, Nat.le_refl _, heap_alloc_new w _, Nat.le_refl _, by simp [maxLen], rfl, rfl⟩⟩
/-- 'append(xs, ys...)'. -/
theorem wpList_appRd {P : Program} {ops : Array Oper} {rest : List Oper} {o : Oper} {a : Act} {Q : Exit → Act → World → Prop} {v v2 : Value} {m : List α} (hgd : o.guard = none) (s x : Operand) (t : TypeId)
    (ho : o.op = .call { callee := .builtin .append, args := #[s, x], argTypes := #[t, t] })
    (z : Value) (bytes : Nat) (ht : P.underlying t = some (.slice e)) (hinf : (P.info? e).map (fun i => (i.zero, i.size, i.bytes)) = some (some z, 1, bytes)) (hzs : z.cells.size = 1)
    (h1 : ∀ x, (enc x).oneCell' = true) (hs : a.eval s = v) (hown : OwnL enc e w B v l) (hx : a.eval x = v2) (hr : Rd enc w v2 m)
    (hlen : l.length + m.length ≤ 1099511627776) (hby : bytes ≤ 128) (hB : B ≤ w.heap.size)
    (h : ∀ v' w', OwnL enc e w' B v' (l ++ m) → Below B w w' → wpList P ops Q rest (a.put o.dst v') w') : wpList P ops Q (o :: rest) a w := by
  obtain ⟨i, hi, hz, hsz, hbt⟩ := info_parts hinf
  rcases hr with ⟨rfl, rfl⟩ | ⟨b, off, c, rfl, h3, h4, h5, h6⟩
  · refine wpList_append_own_none hgd s x t ho B e i 1 ht hi v l.length (l.map enc) hs hown hx ?_
    rw [List.append_nil] at h
    exact h v w hown (Below.refl _ _)
  · refine wpList_append_own w hgd s x t ho B e i z 1 bytes ht hi hz hsz hbt hzs (by decide) v l.length (l.map enc) hs hown ⟨b, off, none⟩ m.length c (m.map enc) hx (by simp) ?_ ?_ (by simp only [maxLen]; omega) ?_ hB ?_
    · intro j u hu
      rw [List.getElem?_map] at hu
      cases hm : m[j]? with
      | none => rw [hm] at hu; cases hu
      | some y =>
        rw [hm] at hu
        cases hu
        have hadd : (⟨b, off, none⟩ : Addr).add j = ⟨b, off + j, none⟩ := by unfold Addr.add; split <;> simp_all
        rw [hadd]; exact h6 j y hm
    · intro u hu; obtain ⟨y, _, rfl⟩ := List.mem_map.1 hu; exact h1 _
    · have := Nat.mul_le_mul hlen hby; omega
    · intro v' w' k1 k2 _
      refine h v' w' (by simpa [OwnL] using k1) ?_
      exact (Below.refl B w).grown k2 hB (fun k hk => (World.ownsRow.lt hown k hk).1)
end
end Yk
/- Aids for walks: bytes of the call's own turned into a string. Over any program. -/
namespace Yk
open Go Go.RowKit
/-- A byte in a cell. -/
abbrev encB (c : UInt8) : Value := .int .u8 (c.toNat : Int)
theorem encB_one (c : UInt8) : (encB c).oneCell' = true := rfl
theorem foldl_push (l : List UInt8) : ∀ (s : ByteArray), (l.map (fun c => (c.toNat : Int))).foldl (fun r n => r.push (UInt8.ofNat n.toNat)) s = ⟨(s.data.toList ++ l).toArray⟩ := by
  induction l with
  | nil => intro s; apply ba_ext; simp
  | cons c t ih =>
    intro s
    rw [List.map_cons, List.foldl_cons, ih]
    apply ba_ext
    simp [ByteArray.push]
/-- 'string(b)'. -/
theorem run_string {P : Program} (w : World) (src dst e : TypeId) (hs : P.underlying src = some (.slice e)) (he : P.underlying e = some (.int .u8)) (hd : P.underlying dst = some .string)
    {v : Value} {l : List UInt8} (h : Rd encB w v l) : (Go.convert src dst v).run P w = .ok (.string ⟨l.toArray⟩) w := by
  rcases h with ⟨rfl, rfl⟩ | ⟨b, off, cap, rfl, h1, h2, h3, h4⟩
  · rw [run_convert_bytes_string w src dst e none 0 0 hs he hd]
    rfl
  · rw [run_convert_bytes_string w src dst e _ _ _ hs he hd, run_bytesToString w ⟨b, off, none⟩ l.length cap (l.map (fun c => (c.toNat : Int))) ?_, foldl_push]
    · rfl
    · have := run_loadCells_list (P := P) (w := w) ⟨b, off, none⟩ (l.map encB) (by
        intro j u hu
        rw [List.getElem?_map] at hu
        cases hm : l[j]? with
        | none => rw [hm] at hu; cases hu
        | some y =>
          rw [hm] at hu
          cases hu
          have hadd : (⟨b, off, none⟩ : Addr).add j = ⟨b, off + j, none⟩ := by unfold Addr.add; split <;> simp_all
          rw [hadd]; exact h4 j y hm)
      rw [List.length_map] at this
      rw [this, List.map_map]
      rfl
end Yk
/- Aids for walks: blocks of the call's own known whole (structs in memory). Over any program. -/
namespace Yk
open Go Go.RowKit
/-- Block b is a row of cells. -/
def Blk (w : World) (b : Nat) (cs : Array Value) (t : TypeId) : Prop := w.heap[b]? = some (.cells cs t (0, 0))
section
variable {w w' : World} {b : Nat} {cs : Array Value} {t : TypeId}
theorem Blk.new (w : World) (cs : Array Value) (t : TypeId) : Blk (w.alloc (.cells cs t)) w.heap.size cs t := heap_alloc_new w _
theorem Blk.newAt (w : World) (cs : Array Value) (t : TypeId) {b : Nat} (h : b = w.heap.size) : Blk (w.alloc (.cells cs t)) b cs t := by subst h; exact heap_alloc_new w _
theorem Blk.lt (h : Blk w b cs t) : b < w.heap.size := (Array.getElem?_eq_some_iff.1 h).1
theorem Blk.cell (h : Blk w b cs t) {i : Nat} {v : Value} (hv : cs[i]? = some v) : w.cell? ⟨b, i, none⟩ = some v := by
  rw [cell_of_row w b i cs t (0, 0) h]; exact hv
theorem Blk.free (h : Blk w b cs t) (i : Nat) : w.frozen? ⟨b, i, none⟩ = false := frozen_of_row w b i cs t h
theorem Blk.alloc (h : Blk w b cs t) (o : Obj) : Blk (w.alloc o) b cs t := (Below.heap_alloc w o b h.lt).trans h
theorem Blk.below {B : Nat} (h : Blk w b cs t) (hb : Below B w w') (hB : b < B) : Blk w' b cs t := (hb.block b hB).trans h
theorem Blk.drewN (h : Blk w b cs t) (n : Nat) : Blk (w.drewN n) b cs t := h
theorem Blk.set (h : Blk w b cs t) (i : Nat) (u : Value) : Blk (w.setCell ⟨b, i, none⟩ u) b (cs.setIfInBounds i u) t := by
  unfold Blk at *
  simp [World.setCell, Array.getElem?_modify, h]
/-- The book-keeping of a loop over an iterator turns no row of cells. -/
theorem Blk.kept {row : Option Nat} (h : Blk w b cs t) (hg : w.grownBy w' row) (hr : ∀ r, row = some r → ∃ o : Obj, w.heap[r]? = some o ∧ o.isCells = false) : Blk w' b cs t := by
  refine (hg.block b h.lt ?_).trans h
  intro e
  obtain ⟨o, h1, h2⟩ := hr b e.symm
  rw [h] at h1
  cases h1
  cases h2
theorem Blk.setOther (h : Blk w b cs t) {a : Addr} (ha : a.block ≠ b) (u : Value) : Blk (w.setCell a u) b cs t :=
  (Below.heap_setCell w a u b (fun e => ha e.symm)).trans h
end
section
variable {α : Type} {enc : α → Value} {e : TypeId} {w : World} {B : Nat} {v : Value} {l : List α} {x : α}
/-- A row that holds something is no nil. -/
theorem OwnL.some_of (h : OwnL enc e w B v (l ++ [x])) : ∃ g cap, v = .slice (some ⟨g, 0, none⟩) (l.length + 1) cap ∧ B ≤ g ∧ g < w.heap.size := by
  obtain ⟨h1, h2⟩ := h
  rcases h2 with ⟨_, h3⟩ | ⟨g, cap, cur, rfl, hb, hg, _⟩
  · simp at h3
  · exact ⟨g, cap, by rw [List.length_append]; rfl, hb, (Array.getElem?_eq_some_iff.1 hg).1⟩
theorem OwnL.cons_of (h : OwnL enc e w B v (x :: l)) : ∃ g cap, v = .slice (some ⟨g, 0, none⟩) (l.length + 1) cap ∧ B ≤ g ∧ g < w.heap.size := by
  obtain ⟨h1, h2⟩ := h
  rcases h2 with ⟨_, h3⟩ | ⟨g, cap, cur, rfl, hb, hg, _⟩
  · simp at h3
  · exact ⟨g, cap, rfl, hb, (Array.getElem?_eq_some_iff.1 hg).1⟩
end
end Yk
/- Aids for walks in a round of a loop over an iterator: appends. Over any program. -/
namespace Yk
open Go Go.RowKit
section
variable {α : Type} {enc : α → Value} {e : TypeId} {w : World} {B : Nat} {v : Value} {l : List α} {F : Fence} {nF : Nat}
theorem ownL_cells {w' : World} (h : OwnL enc e w B v l) (hg : w.grownBy w' v.ownBlock) : KeepsOthers w w' := by
  refine ⟨hg.size, fun k o hk ho => (hg.block k (Array.getElem?_eq_some_iff.1 hk).1 ?_).trans hk⟩
  intro e1
  obtain ⟨_, h2⟩ := h
  rcases h2 with ⟨rfl, _⟩ | ⟨g, cap, cur, rfl, _, hgg, _⟩
  · cases e1
  · cases e1; rw [hgg] at hk; cases hk; cases ho
/-- 'append(xs, ys...)' onto a row of the call's own, in a fence. -/
theorem wpListIn_appRd {P : Program} {ops : Array Oper} {rest : List Oper} {o : Oper} {a : Act} {Q : Exit → Act → World → Prop} {v2 : Value} {m : List α} (hgd : o.guard = none) (s x : Operand) (t : TypeId)
    (ho : o.op = .call { callee := .builtin .append, args := #[s, x], argTypes := #[t, t] })
    (z : Value) (bytes : Nat) (ht : P.underlying t = some (.slice e)) (hinf : (P.info? e).map (fun i => (i.zero, i.size, i.bytes)) = some (some z, 1, bytes)) (hzs : z.cells.size = 1)
    (h1 : ∀ x, (enc x).oneCell' = true) (hs : a.eval s = v) (hown : OwnL enc e w B v l) (hx : a.eval x = v2) (hr : Rd enc w v2 m)
    (hlen : l.length + m.length ≤ 1099511627776) (hby : bytes ≤ 128) (hB : B ≤ w.heap.size)
    (h : ∀ v' w', OwnL enc e w' B v' (l ++ m) → Below B w w' → KeepsOthers w w' → wpListIn F nF P ops Q rest (a.put o.dst v') w') : wpListIn F nF P ops Q (o :: rest) a w := by
  obtain ⟨i, hi, hz, hsz, hbt⟩ := info_parts hinf
  rcases hr with ⟨rfl, rfl⟩ | ⟨b, off, c, rfl, h3, h4, h5, h6⟩
  · refine wpListIn_plain hgd fun K hK => ?_
    have hrun := run_append_owned_none (P := P) (w := w) B t o.type e i 1 ht hi v l.length (l.map enc) hown
    unfold Oper.wpIn
    rw [List.append_nil] at h
    refine ⟨?_, ?_⟩
    · simp [Oper.about, ho, resolve, Target.leads, Sem.run_pure]
    · rw [Oper.semAt_plain F _ _ (by rw [ho]; intro c hc'; cases hc')]
      simp [execOp, ho, resolve, invoke, builtin, hs, hx, hrun, Result.andThen]
      exact hK _ _ (h v w hown (Below.refl _ _) (KeepsOthers.refl _))
  · refine wpListIn_append_own w hgd s x t ho B e i z 1 bytes ht hi hz hsz hbt hzs (by decide) v l.length (l.map enc) hs hown ⟨b, off, none⟩ m.length c (m.map enc) hx (by simp) ?_ ?_ (by simp only [maxLen]; omega) ?_ hB ?_
    · intro j u hu
      rw [List.getElem?_map] at hu
      cases hm : m[j]? with
      | none => rw [hm] at hu; cases hu
      | some y =>
        rw [hm] at hu
        cases hu
        have hadd : (⟨b, off, none⟩ : Addr).add j = ⟨b, off + j, none⟩ := by unfold Addr.add; split <;> simp_all
        rw [hadd]; exact h6 j y hm
    · intro u hu; obtain ⟨y, _, rfl⟩ := List.mem_map.1 hu; exact h1 _
    · have := Nat.mul_le_mul hlen hby; omega
    · intro v' w' k1 k2 _
      exact h v' w' (by simpa [OwnL] using k1) ((Below.refl B w).grown k2 hB (fun k hk => (World.ownsRow.lt hown k hk).1)) (ownL_cells hown k2)
/-- 'make([]T, n)', in a fence. -/
theorem wpListIn_makeN {P : Program} {ops : Array Oper} {rest : List Oper} {o : Oper} {a : Act} {Q : Exit → Act → World → Prop} (hgd : o.guard = none) (lo c : Operand) (t : TypeId) (hop : o.op = Op.makeSlice t lo c)
    (z : α) (bytes : Nat) (ht : P.underlying t = some (.slice e)) (hinf : (P.info? e).map (fun i => (i.zero, i.size, i.bytes)) = some (some (enc z), 1, bytes)) (hzs : (enc z).cells = #[enc z])
    (kl kc : IntKind) (L C : Int) (n : Nat) (hl : a.eval lo = .int kl L) (hc : a.eval c = .int kc C) (hL : L = (n : Int)) (hC : C = (n : Int)) (hn : n ≤ 1099511627776) (hby : bytes ≤ 128) (hB : B ≤ w.heap.size)
    (h : ∀ w', OwnL enc e w' B (.slice (some ⟨w.heap.size, 0, none⟩) n n) (List.replicate n z) → Below w.heap.size w w' → wpListIn F nF P ops Q rest (a.put o.dst (.slice (some ⟨w.heap.size, 0, none⟩) n n)) w') :
    wpListIn F nF P ops Q (o :: rest) a w := by
  obtain ⟨i, hi, hz, hsz, hbt⟩ := info_parts hinf
  refine wpListIn_plain hgd fun K hK' => ?_
  obtain ⟨w', hrun, k1, k2⟩ := run_make_full (P := P) w B t e i (enc z) 1 ht hi hz hsz kl kc n (by rw [hbt]; have := Nat.mul_le_mul hby hn; omega) (by simp only [maxLen]; omega) hB
  subst hL
  subst hC
  have e1 : (madeCells (enc z).cells (n * 1)).toList = (List.replicate n z).map enc := by
    rw [hzs, map_replicate_enc]
    apply List.ext_getElem
    · simp [madeCells]
    · intro j h1 h2; simp [madeCells, Nat.mod_one]
  rw [e1] at k1
  unfold Oper.wpIn
  refine ⟨?_, ?_⟩
  · simp [Oper.about, hop, resolve, Target.leads, Sem.run_pure]
  · rw [Oper.semAt_plain F _ _ (by rw [hop]; intro c hc'; cases hc')]
    simp [execOp, hop, hl, hc, hrun, Result.andThen]
    refine hK' _ _ (h w' ?_ ((Below.refl _ w).grown k2 (Nat.le_refl _) (fun k hk => by cases hk)))
    unfold OwnL
    rw [List.length_replicate]
    exact k1
theorem OwnL.kept {w' : World} {row : Option Nat} (h : OwnL enc e w B v l) (hg : w.grownBy w' row) (hr : ∀ r, row = some r → ∃ o : Obj, w.heap[r]? = some o ∧ o.isCells = false) : OwnL enc e w' B v l := by
  obtain ⟨h1, h2⟩ := h
  refine ⟨h1, ?_⟩
  rcases h2 with h2 | ⟨g, cap, cur, rfl, hb, hgg, h4⟩
  · exact .inl h2
  · exact .inr ⟨g, cap, cur, rfl, hb, Blk.kept hgg hg hr, h4⟩
end
end Yk
/- Aids for walks in a round of a loop over an iterator: a region that draws its order, its loads first. Over any program. -/
namespace Yk
open Go
def noDefer (ops : Array Oper) : Bool := ops.all fun o => match o.op with | .defer _ => false | _ => true
theorem noDefer_at {ops : Array Oper} (h : noDefer ops = true) {i : Nat} {o : Oper} (ho : ops[i]? = some o) : ∀ c, o.op ≠ .defer c := by
  intro c hc
  obtain ⟨hi, rfl⟩ := Array.getElem?_eq_some_iff.1 ho
  have := Array.all_eq_true.1 h i hi
  rw [hc] at this
  cases this
theorem calls_inRound {P : Program} {f : FuncId} {args : Array Value} {w : World} {R : Ending → World → Prop} (l n : Nat) (h : Calls P f args w R) : CallsIn (Fence.wide.inRound l) n P f args w R := CallsIn.inRound l (callsIn_wide.2 h)
theorem operIn_of {P : Program} {o : Oper} {a : Act} {w : World} {K K' : Act → World → Prop} {Q : Exit → Act → World → Prop} (l n : Nat) (hd : ∀ c, o.op ≠ .defer c) (hQ : ∀ a w, ¬ Q .outgrown a w) (hK : ∀ a w, K a w → K' a w) (h : o.wp P a w K Q) :
    o.wpIn (Fence.wide.inRound l) n P a w K' Q := by
  unfold Oper.wpIn
  refine ⟨fun _ _ => trivial, ?_⟩
  rw [Fence.inRound_round, Oper.semAt_some l _ _ hd]
  unfold Oper.wp at h
  generalize (execOp a.eval o).run P w = r at h ⊢
  cases r with
  | ok x w' =>
    cases x with
    | value v => exact hK _ _ h
    | skip => exact hK _ _ h
    | defer d => exact hK _ _ h
    | enter f args =>
      refine ⟨fun h => (by cases h), (calls_inRound l (n - 1) h).mono ?_⟩
      intro e w'' he
      cases e with
      | returned v => exact hK _ _ he
      | panicked c => exact he
      | outgrown => obtain ⟨a, w, h⟩ := he; exact absurd h (hQ a w)
    | row r args => exact ⟨fun h => (by cases h), fun c cs _ => let ⟨v, w'', r, s⟩ := h c cs; ⟨v, w'', hK _ _ r, stepsIn_wide.2 s⟩⟩
    | _ => exact h.elim
  | halt x w' => cases x <;> exact h
theorem wpOpIn_of {P : Program} {ops : Array Oper} {Q : Exit → Act → World → Prop} {i : Nat} {a : Act} {w : World} {K K' : Act → World → Prop} (l n : Nat) (hd : noDefer ops = true) (hQ : ∀ a w, ¬ Q .outgrown a w) (hK : ∀ a w, K a w → K' a w) (h : wpOp P ops Q i K a w) :
    wpOpIn (Fence.wide.inRound l) n P ops Q i K' a w := by
  unfold wpOp at h
  unfold wpOpIn
  split at h
  · rename_i hn; simp only [hn]; exact hK _ _ h
  · rename_i o ho
    simp only [ho]
    split at h
    · rename_i hw
      simp only [hw, if_true]
      rcases h with h | ⟨_, a, w, h⟩
      · exact operIn_of l n (noDefer_at hd ho) hQ hK h
      · exact absurd h (hQ a w)
    · rename_i hw
      simp only [hw]
      exact ⟨fun _ _ => trivial, hK _ _ h⟩
theorem wpAnyIn_of {P : Program} {md : Region.Mode} {ops : Array Oper} {Q : Exit → Act → World → Prop} (l n : Nat) (hd : noDefer ops = true) (hQ : ∀ a w, ¬ Q .outgrown a w) : ∀ (fuel : Nat) (listed : Array Bool) (a : Act) (w : World), wpAny P md ops Q fuel listed a w → wpAnyIn (Fence.wide.inRound l) n P md ops Q fuel listed a w
  | 0, _, _, _, h => h
  | fuel + 1, _, _, _, h => ⟨h.1, fun i hi => wpOpIn_of l n hd hQ (fun a' w' => wpAnyIn_of l n hd hQ fuel _ a' w') (h.2 i hi)⟩
/-- A region of a round that draws its order: its loads first, in worlds that meet S. -/
theorem wpIn_region_round {P : Program} {id : Nat} {ops : Array Oper} {Q : Exit → Act → World → Prop} {a : Act} {w : World} {l n : Nat} (S : World → Prop) (hm : P.follows .mixedOrders = true) (hd : noDefer ops = true) (hQ : ∀ a w, ¬ Q .outgrown a w)
    (h : wpAnyH P .any ops Q S ops.size (Array.replicate ops.size false) a w.drew) : (Code.region id ops true).wpIn (Fence.wide.inRound l) n P Q a w :=
  wpIn_region_any hm (wpAnyIn_of l n hd hQ _ _ _ _ (wpAny_of_held _ _ _ _ h))
end Yk
/- Aids for walks: a builder of the call's own, while blocks that are no rows of cells turn; decimal texts repeated. Over any program. -/
namespace Yk
open Go Go.RowKit
section
variable {T e : TypeId} {B b : Nat} {bs : List Value} {w w' : World}
theorem builderAtF_kept {p : Value} {row : Option Nat} (h : Lib.BuilderAtF T e B b p bs w) (hg : w.grownBy w' row) (hr : ∀ r, row = some r → ∃ o : Obj, w.heap[r]? = some o ∧ o.isCells = false) : Lib.BuilderAtF T e B b p bs w' := by
  obtain ⟨h1, v, h2, h3, h4⟩ := h
  refine ⟨h1, v, Blk.kept h2 hg hr, h3.kept hg ?_, h4⟩
  rcases Option.eq_none_or_eq_some v.ownBlock with e1 | ⟨g, e1⟩
  · exact .inl e1
  · refine .inr fun e2 => ?_
    obtain ⟨c, fz, hc⟩ := Lib.ownsRowF_kind h3 g e1
    obtain ⟨o, ho, hn⟩ := hr g (by rw [← e2, e1])
    rw [hc] at ho; cases ho; cases hn
theorem isBuilderF_kept {row : Option Nat} (h : Lib.IsBuilderF T e B b bs w) (hg : w.grownBy w' row) (hr : ∀ r, row = some r → ∃ o : Obj, w.heap[r]? = some o ∧ o.isCells = false) : Lib.IsBuilderF T e B b bs w' :=
  h.elim (fun h => .inl (builderAtF_kept h hg hr)) (fun h => .inr (builderAtF_kept h hg hr))
theorem isBuilderF_below (h : Lib.IsBuilderF T e B b bs w) (hb : Below w.heap.size w w') : Lib.IsBuilderF T e B b bs w' := by
  have key : ∀ p, Lib.BuilderAtF T e B b p bs w → Lib.BuilderAtF T e B b p bs w' := by
    rintro p ⟨h1, v, h2, h3, h4⟩
    refine ⟨h1, v, (hb.block b (Array.getElem?_eq_some_iff.1 h2).1).trans h2, ⟨h3.1, ?_⟩, h4⟩
    rcases h3.2 with h5 | ⟨g, cap, cur, fz, rfl, hB, hg, h6⟩
    · exact .inl h5
    · exact .inr ⟨g, cap, cur, fz, rfl, hB, (hb.block g (Array.getElem?_eq_some_iff.1 hg).1).trans hg, h6⟩
  exact h.elim (fun h => .inl (key _ h)) (fun h => .inr (key _ h))
/-- What a builder's methods keep besides: all that are no rows of cells. -/
theorem keepsOthers_of_othersKept (h : Lib.OthersKept e (some b) w w') (hb : ∃ cs t fz, w.heap[b]? = some (.cells cs t fz)) (hs : w.heap.size ≤ w'.heap.size) : KeepsOthers w w' := by
  refine ⟨hs, fun k o hk ho => h k o hk ?_ ?_⟩
  · intro e1; cases e1
    obtain ⟨cs, t, fz, h2⟩ := hb
    rw [h2] at hk; cases hk; cases ho
  · intro c fz e1; subst e1; cases ho
theorem isBuilderF_cells (h : Lib.IsBuilderF T e B b bs w) : ∃ cs t fz, w.heap[b]? = some (.cells cs t fz) := by
  rcases h with ⟨_, v, h2, _⟩ | ⟨_, v, h2, _⟩ <;> exact ⟨_, _, _, h2⟩
end
/-- What a block of two cells gives a walk. -/
theorem blk2 {w : World} {b : Nat} {x y : Value} {t : TypeId} (h : Blk w b #[x, y] t) : w.cell? ⟨b, 0, none⟩ = some x ∧ w.cell? ⟨b, 1, none⟩ = some y ∧ w.frozen? ⟨b, 0, none⟩ = false ∧ w.frozen? ⟨b, 1, none⟩ = false ∧ b < w.heap.size :=
  ⟨h.cell rfl, h.cell rfl, h.free 0, h.free 1, h.lt⟩
theorem blk1 {w : World} {b : Nat} {x : Value} {t : TypeId} (h : Blk w b #[x] t) : w.cell? ⟨b, 0, none⟩ = some x ∧ w.frozen? ⟨b, 0, none⟩ = false ∧ b < w.heap.size :=
  ⟨h.cell rfl, h.free 0, h.lt⟩
end Yk
