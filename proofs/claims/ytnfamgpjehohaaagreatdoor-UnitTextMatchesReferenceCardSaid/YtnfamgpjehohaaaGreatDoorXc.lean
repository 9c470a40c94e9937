/- Aids for the claim. -/
import Derived.Test.YtnfamgpjehohaaaGreatDoorXb
import Derived.Test.YtnfamgpjehohaaaGreatDoorProg
import Derived.WalkKit
import Derived.WalkSpells
import Derived.WalkLawsBesides
import Derived.Lib.Hide
import Derived.Maps.AppendAt
import Derived.Laws.AppendOwnNone
import Derived.RangeFuncBox
import Derived.OwnWalkIn
import Derived.RangeFuncCalls
import Derived.Deep.RegionHeld
import Derived.Lib.OthersKept
import Derived.RangeFuncLeaves
import Derived.RangeFuncNested
import Derived.Shelf.Abstract
import Derived.TacticsInMore
import Derived.LoopNIn
import Derived.LoopIn
import Derived.Test.YtnfamgpjehohaaaGreatDoorSh
import Derived.WalkSmall
import Derived.Lib.AtoiErrMem
import Derived.Lib.IndexBytes
import Derived.Deep.QuietTactic
import Derived.BigQuiet
import Derived.Shelf.RegionOpen
import Derived.Deep.RegionWith
import Derived.Laws.EntriesVeiled
import Derived.Deep.RegionHeld3
set_option linter.unusedVariables false
set_option linter.unusedSimpArgs false
namespace Yk
open Go Go.Sy
def uz (a : ByteArray) : Bool := decide (a.size ≤ maxLen)
def uzR (a : RS) : Bool := uz a.1 && uz a.2
def uInt (n : Int) : Bool := inR .i64 n
def lowF (n d : Int) : Int × Int := (n.tdiv (Int.gcd n d), d.tdiv (Int.gcd n d))
def withinF (n lo hi : Int) : Bool := decide (lo ≤ n) && decide (n ≤ hi)
def fitsF (p : Int × Int) : Bool := withinF p.2 1 12 && (withinF p.1 (-12) 12 && decide (lowF p.1 p.2 = p))
def noneF : D7 := mk7 0 1 0 1 0 1 0 1 0 1 0 1 0 1
def rZ : RS := (⟨#[48]⟩, ⟨#[49]⟩)
def rI : RS := (⟨#[49]⟩, ⟨#[49]⟩)
def noR2 : RS := (⟨#[]⟩, ⟨#[]⟩)
def eq2 (p q : Int × Int) : Bool := p.1 == q.1 && (p.2 == q.2 && true)
def eq7 (d e : D7) : Bool := eq2 d.d0 e.d0 && (eq2 d.d1 e.d1 && (eq2 d.d2 e.d2 && (eq2 d.d3 e.d3 && (eq2 d.d4 e.d4 && (eq2 d.d5 e.d5 && (eq2 d.d6 e.d6 && true))))))
def eqR (a b : RS) : Bool := seq a.1 b.1 && (seq a.2 b.2 && true)
def eqU (u v : Un) : Bool := eq7 u.d v.d && (eqR u.f v.f && (eqR u.o v.o && (u.k == v.k && (u.s == v.s && true))))
def plainF (d : D7) (f : RS) (k : Int) : Un := ⟨d, f, rZ, k, bif k == 0 && eq7 d noneF then 2 else 1⟩
def map7 (g : Int × Int → Int × Int → Int × Int) (a b : D7) : D7 := ⟨g a.d0 b.d0, g a.d1 b.d1, g a.d2 b.d2, g a.d3 b.d3, g a.d4 b.d4, g a.d5 b.d5, g a.d6 b.d6⟩
def fits7 (d : D7) : Bool := fitsF d.d0 && (fitsF d.d1 && (fitsF d.d2 && (fitsF d.d3 && (fitsF d.d4 && (fitsF d.d5 && fitsF d.d6)))))
def upto7 (d : D7) : D7 × Bool :=
 bif !fitsF d.d0 then (⟨d.d0, (0, 0), (0, 0), (0, 0), (0, 0), (0, 0), (0, 0)⟩, false) else
 bif !fitsF d.d1 then (⟨d.d0, d.d1, (0, 0), (0, 0), (0, 0), (0, 0), (0, 0)⟩, false) else
 bif !fitsF d.d2 then (⟨d.d0, d.d1, d.d2, (0, 0), (0, 0), (0, 0), (0, 0)⟩, false) else
 bif !fitsF d.d3 then (⟨d.d0, d.d1, d.d2, d.d3, (0, 0), (0, 0), (0, 0)⟩, false) else
 bif !fitsF d.d4 then (⟨d.d0, d.d1, d.d2, d.d3, d.d4, (0, 0), (0, 0)⟩, false) else
 bif !fitsF d.d5 then (⟨d.d0, d.d1, d.d2, d.d3, d.d4, d.d5, (0, 0)⟩, false) else
 bif !fitsF d.d6 then (⟨d.d0, d.d1, d.d2, d.d3, d.d4, d.d5, d.d6⟩, false) else (d, true)
def addF (s : Int) (p q : Int × Int) : Int × Int := lowF (p.1 * q.2 + s * q.1 * p.2) (p.2 * q.2)
def validF (u : Un) : Bool := fits7 u.d && (rV u.f && (rV u.o && (decide (0 < rCmp u.f rZ) && (withinF u.k 0 100 && (u.s == 0 || eqU u (plainF u.d u.f u.k))))))
def noU : Un := ⟨mk7 0 0 0 0 0 0 0 0 0 0 0 0 0 0, noR2, noR2, 0, 0⟩
def thenP (bad : Bool) (v : RS) (op : RS → RS → RS × Int) (r : RS) (K : Bool → RS → Prop) : Prop :=
 branch (!bad) (needB (uzR v && uzR r) (K (bad || (op v r).2 != 0) (op v r).1)) (K bad v)
def factorF (u : Un) : Bool := validF u && u.s != 0
def madeF (d : D7 × Bool) (f : RS × Int) (k : Int) : Un × Int := bif !d.2 || f.2 != 0 then (noU, 70) else (plainF d.1 f.1 k, 0)
def mulF (a b : Un) : Un × Int := bif !factorF a || !factorF b then (noU, 70) else madeF (upto7 (map7 (addF 1) a.d b.d)) (rMul a.f b.f) (bif 2 == b.s then a.k else bif 2 == a.s then b.k else 0)
def divF (a b : Un) : Un × Int := bif !factorF a || !factorF b then (noU, 70) else madeF (upto7 (map7 (addF (-1)) a.d b.d)) (rDiv a.f b.f) (bif b.s == 2 then a.k else 0)
def alikeF (a b : Un) : Bool := validF a && validF b && eq7 a.d b.d && eqR a.f b.f && a.k == b.k
def sumF7 (a b : Un) : Un × Int := bif !alikeF a b || (a.s == 0 && b.s == 0) then (noU, 70) else bif b.s == 0 then (b, 0) else (a, 0)
def diffF (a b : Un) : Un × Int := bif !alikeF a b then (noU, 70) else bif b.s != 0 then (a, 0) else bif eqU a b then (plainF a.d a.f a.k, 0) else (noU, 70)
def convF (v : RS) (a b : Un) : RS × Int :=
 bif !validF a || !validF b || !eq7 a.d b.d || a.k != b.k || a.s != b.s then (noR2, 70) else
 bif (rMul v a.f).2 != 0 || (rAdd (rMul v a.f).1 a.o).2 != 0 || (rSub (rAdd (rMul v a.f).1 a.o).1 b.o).2 != 0 || (rDiv (rSub (rAdd (rMul v a.f).1 a.o).1 b.o).1 b.f).2 != 0 then (noR2, 70) else
 ((rDiv (rSub (rAdd (rMul v a.f).1 a.o).1 b.o).1 b.f).1, 0)
end Yk
namespace Go.Proofs.YtnfamgpjehohaaaGreatDoor
open Go Go.RowKit Go.Sy Yk
def gamR : List (FuncId × Ctr) := [
 (61, k2 cR cR (cP cR cI) (fun a b => uzR a && uzR b) rAdd),
 (62, k2 cR cR (cP cR cI) (fun a b => uzR a && uzR b) rSub),
 (46, k2 cR cR (cP cR cI) (fun a b => uzR a && uzR b) rMul),
 (47, k2 cR cR (cP cR cI) (fun a b => uzR a && uzR b) rDiv),
 (67, k2 cR cR cI (fun a b => uzR a && uzR b) rCmp),
 (66, k1 cR cB uzR rV),
 (76, k1 cR cS uzR rPrint),
 (84, k1 cS (cP cR cI) (fun s => decide (s.size ≤ 100000)) rParse),
 (63, k2 cR cR (cP cR cI) (fun a b => uzR a && uzR b) rAdd),
 (64, k2 cR cR (cP cR cI) (fun a b => uzR a && uzR b) rSub),
 (53, k2 cR cR (cP cR cI) (fun a b => uzR a && uzR b) rMul),
 (54, k2 cR cR (cP cR cI) (fun a b => uzR a && uzR b) rDiv),
 (70, k2 cR cR cI (fun a b => uzR a && uzR b) rCmp),
 (69, k1 cR cB uzR rV),
 (80, k1 cR cS uzR rPrint),
 (35, k1 cS (cP cR cI) (fun s => decide (s.size ≤ 100000)) rParse),
 (36, k2 cI cI (cP cR cI) (fun a b => uInt a && uInt b) rMk)]
def oksU : List FuncId := [68, 40, 73, 43, 39, 41, 60, 24, 65, 16, 26, 44, 45, 91, 48, 38, 55, 97, 12, 14, 10, 42, 58, 18, 20, 22, 74, 77, 28, 83, 30]
abbrev runU (g : List (FuncId × Ctr)) (ann : FuncId → Nat → Option (AS → Ann)) (n : Nat) (f : FuncId) (args : List SV) (K : SV → Prop) : Prop := inlN Tryz.prog (oneOf oksU) (lookG g) (lookM []) ann n f args (fun _ => none) 0 [] fun r _ _ _ => K r
end Go.Proofs.YtnfamgpjehohaaaGreatDoor
namespace Go.RowKit
theorem Below.drewN {B : Nat} {a w : World} (h : Below B a w) (n : Nat) : Below B a (w.drewN n) := ⟨h.os, h.tape, h.output, h.size, h.block⟩
end Go.RowKit
namespace Yk
open Go Go.RowKit
theorem ret_pair {a b c d : Value} (h : a = b) (k : c = d) : Ending.returned (.tuple #[a, c]) = .returned (.tuple #[b, d]) := by rw [h, k]
theorem bool_eq {p q : Prop} [Decidable p] [Decidable q] (h : p ↔ q) : Value.bool (decide p) = .bool (decide q) := by rw [decide_eq_decide.2 h]
theorem ret_bool {a b : Bool} (h : a = b) : Ending.returned (.bool a) = .returned (.bool b) := by rw [h]
theorem ret_str {a b : ByteArray} (h : a = b) : Ending.returned (.string a) = .returned (.string b) := by rw [h]
theorem ret_i64 {a b : Int} (h : a = b) : Ending.returned (.int .i64 a) = .returned (.int .i64 b) := by rw [h]
def OwnL {α : Type} (enc : α → Value) (e : TypeId) (w : World) (B : Nat) (v : Value) (l : List α) : Prop :=
 w.ownsRow B e 1 v l.length (l.map enc)
def Rd {α : Type} (enc : α → Value) (w : World) (v : Value) (l : List α) : Prop :=
 (v = .slice none 0 0 ∧ l = []) ∨
 ∃ b off cap, v = .slice (some ⟨b, off, none⟩) l.length cap ∧ b < w.heap.size ∧ l.length ≤ cap ∧ cap ≤ 9223372036854775807 ∧
  ∀ i x, l[i]? = some x → w.cell? ⟨b, off + i, none⟩ = some (enc x)
section
variable {α : Type} {enc : α → Value} {e : TypeId} {w : World} {B : Nat} {v : Value} {l : List α}
theorem OwnL.nil (w : World) (B : Nat) : OwnL enc e w B (.slice none 0 0) [] := World.ownsRow_nil w B e 1
theorem OwnL.alloc (h : OwnL enc e w B v l) (o : Obj) : OwnL enc e (w.alloc o) B v l := World.ownsRow.alloc h o
theorem OwnL.drew (h : OwnL enc e w B v l) : OwnL enc e w.drew B v l := h
theorem OwnL.rd (h : OwnL enc e w B v l) : Rd enc w v l := by
 obtain ⟨h1, h2⟩ := h
 rcases h2 with ⟨rfl, h3⟩ | ⟨g, cap, cur, rfl, hb, hg, h4, h5, h6, h7⟩
 · exact .inl ⟨rfl, List.eq_nil_of_length_eq_zero h3⟩
 · refine .inr ⟨g, 0, cap, rfl, (Array.getElem?_eq_some_iff.1 hg).1, h4, by simpa [maxLen] using h5, fun i x hx => ?_⟩
   rw [Nat.zero_add, cell_of_row w g i cur e (0, 0) hg]
   have : (l.map enc)[i]? = some (enc x) := by rw [List.getElem?_map, hx]; rfl
   rw [← h7, List.getElem?_take] at this
   split at this
   · simpa using this
   · cases this
theorem Rd.open' (h : Rd enc w v l) : ∃ a cap, v = .slice a l.length cap ∧ l.length ≤ cap ∧ cap ≤ 9223372036854775807 ∧
 ∀ (i : Nat) (hi : i < l.length), ∃ b off, a = some ⟨b, off, none⟩ ∧ b < w.heap.size ∧ w.cell? ⟨b, off + i, none⟩ = some (enc l[i]) := by
 rcases h with ⟨rfl, rfl⟩ | ⟨b, off, cap, rfl, h1, h2, h3, h4⟩
 · exact ⟨none, 0, rfl, Nat.le_refl _, by decide, fun i hi => absurd hi (by simp)⟩
 · exact ⟨_, cap, rfl, h2, h3, fun i hi => ⟨b, off, rfl, h1, h4 i _ (List.getElem?_eq_getElem hi)⟩⟩
theorem Rd.addr {a : Option Addr} {n cap : Nat} (h : Rd enc w (.slice a n cap) l) : (a = none → cap = 0) ∧ (∀ x, a = some x → ∃ b off, x = ⟨b, off, none⟩ ∧ b < w.heap.size) := by
 rcases h with ⟨h1, _⟩ | ⟨b, off, c, h1, h2, _⟩
 · injection h1 with e1 e2 e3; subst e1; subst e3; exact ⟨fun _ => rfl, fun x hx => by cases hx⟩
 · injection h1 with e1 e2 e3; subst e1; exact ⟨fun hx => (by cases hx), fun x hx => by cases hx; exact ⟨b, off, rfl, h2⟩⟩
theorem Rd.take_of {a : Option Addr} {k cap : Nat} (hk : k ≤ l.length) (hc : k ≤ cap) (hc2 : cap ≤ 9223372036854775807)
 (hcell : ∀ (i : Nat) (hi : i < l.length), ∃ b off, a = some ⟨b, off, none⟩ ∧ b < w.heap.size ∧ w.cell? ⟨b, off + i, none⟩ = some (enc l[i])) (hn : a = none → cap = 0) (hs : ∀ x, a = some x → ∃ b off, x = ⟨b, off, none⟩ ∧ b < w.heap.size) :
 Rd enc w (.slice a k cap) (l.take k) := by
 cases a with
 | none =>
   obtain rfl := hn rfl
   obtain rfl : k = 0 := by omega
   exact .inl ⟨rfl, by simp⟩
 | some x =>
   obtain ⟨b, off, rfl, hb⟩ := hs x rfl
   refine .inr ⟨b, off, cap, by rw [List.length_take, Nat.min_eq_left hk], hb, by rw [List.length_take]; omega, hc2, fun i y hy => ?_⟩
   have hi : i < l.length := by
    have := (List.getElem?_eq_some_iff.1 hy).1
    rw [List.length_take] at this; omega
   obtain ⟨b', off', h1, h2, h3⟩ := hcell i hi
   injection h1 with h1; injection h1 with e1 e2; subst e1; subst e2
   rw [h3]
   rw [List.getElem?_take] at hy
   split at hy
   · rw [List.getElem?_eq_getElem hi] at hy; cases hy; rfl
   · cases hy
theorem Rd.below {w' : World} (h : Rd enc w v l) (hb : Below w.heap.size w w') : Rd enc w' v l := by
 rcases h with h | ⟨b, off, cap, rfl, h1, h2, h3, h4⟩
 · exact .inl h
 · exact .inr ⟨b, off, cap, rfl, Nat.lt_of_lt_of_le h1 hb.size, h2, h3, fun i x hx => (hb.cell (p := ⟨b, off + i, none⟩) h1).trans (h4 i x hx)⟩
theorem OwnL.belowTo {w' : World} (h : OwnL enc e w B v l) (hb : Below w.heap.size w w') : OwnL enc e w' B v l := by
 obtain ⟨h1, h2⟩ := h
 refine ⟨h1, ?_⟩
 rcases h2 with h2 | ⟨g, cap, cur, rfl, hB, hg, h4⟩
 · exact .inl h2
 · exact .inr ⟨g, cap, cur, rfl, hB, (hb.block g (Array.getElem?_eq_some_iff.1 hg).1).trans hg, h4⟩
theorem cell_new1 (w : World) (u : Value) (t : TypeId) : (w.alloc (.cells #[u] t)).cell? ⟨w.heap.size, 0, none⟩ = some u := by
 rw [cell_of_row _ w.heap.size 0 #[u] t (0, 0) (heap_alloc_new w _)]
 rfl
def From (B : Nat) (v : Value) : Prop := ∀ k, v.ownBlock = some k → B ≤ k
theorem From.mono {B B' : Nat} {v : Value} (h : From B v) (hB : B' ≤ B) : From B' v := fun k hk => Nat.le_trans hB (h k hk)
theorem From.len {B : Nat} {a : Option Addr} {n c n' c' : Nat} (h : From B (.slice a n c)) : From B (.slice a n' c') := by
 cases a with
 | none => intro k hk; cases hk
 | some x => intro k hk; exact h k hk
theorem From.nil (B : Nat) : From B (.slice none 0 0) := fun k hk => by cases hk
theorem OwnL.from (h : OwnL enc e w B v l) : From B v := fun k hk => (World.ownsRow.lt h k hk).1
theorem Rd.setCell {a : Addr} {C : Nat} (h : Rd enc w v l) (hf : From C v) (ha : a.block < C) (u : Value) : Rd enc (w.setCell a u) v l := by
 rcases h with h | ⟨b, off, cap, rfl, h1, h2, h3, h4⟩
 · exact .inl h
 · have hb := hf b rfl
   refine .inr ⟨b, off, cap, rfl, by simpa [World.setCell] using h1, h2, h3, fun i x hx => ?_⟩
   have := World.cell?_of_block (w := w) (w' := w.setCell a u) (a := ⟨b, off + i, none⟩) (Below.heap_setCell _ _ _ _ (by simp; omega))
   exact this.trans (h4 i x hx)
theorem wpList_app1 {P : Program} {ops : Array Oper} {rest : List Oper} {o : Oper} {a : Act} {Q : Exit → Act → World → Prop} (hgd : o.guard = none) (s x : Operand) (t : TypeId)
 (ho : o.op = .call { callee := .builtin .append, args := #[s, x], argTypes := #[t, t] })
 (z : Value) (bytes : Nat) (ht : P.underlying t = some (.slice e)) (hinf : (P.info? e).map (fun i => (i.zero, i.size, i.bytes)) = some (some z, 1, bytes)) (hzs : z.cells.size = 1)
 (h1 : ∀ x, (enc x).oneCell' = true) (hs : a.eval s = v) (hown : OwnL enc e w B v l) (ad : Addr) (c : Nat) (u : Value) (hx : a.eval x = .slice (some ad) 1 c) (hc : w.cell? ad = some u) (y : α) (hu : u = enc y)
 (hlen : l.length + 1 ≤ 1099511627776) (hby : bytes ≤ 128) (hB : B ≤ w.heap.size)
 (h : ∀ v' w', OwnL enc e w' B v' (l ++ [y]) → Below B w w' → wpList P ops Q rest (a.put o.dst v') w') : wpList P ops Q (o :: rest) a w := by
 subst hu
 obtain ⟨i, hi, hz, hsz, hbt⟩ := info_parts hinf
 refine wpList_append_own w hgd s x t ho B e i z 1 bytes ht hi hz hsz hbt hzs (by decide) v l.length (l.map enc) hs hown ad 1 c [enc y] hx rfl ?_ ?_ ?_ ?_ hB ?_
 · intro j u hu
   cases j with
   | zero => simp at hu; subst hu; simpa [Addr.add] using hc
   | succ j => simp at hu
 · intro u hu; simp at hu; subst hu; exact h1 _
 · simp only [maxLen]; omega
 · have := Nat.mul_le_mul hlen hby; omega
 · intro v' w' k1 k2 _
   refine h v' w' (by simpa [OwnL] using k1) ?_
   exact (Below.refl B w).grown k2 hB (fun k hk => (World.ownsRow.lt hown k hk).1)
end
abbrev encN (x : Nat) : Value := .int .i64 (x : Int)
theorem int_eq {k : IntKind} {a b : Int} (h : a = b) : Value.int k a = .int k b := by rw [h]
theorem encN_one (x : Nat) : (encN x).oneCell' = true := rfl
section
variable {α : Type} {enc : α → Value} {e : TypeId} {w : World} {B g n cap : Nat} {l : List α}
theorem OwnL.row (h : OwnL enc e w B (.slice (some ⟨g, 0, none⟩) n cap) l) : n = l.length ∧ B ≤ g ∧ g < w.heap.size ∧
 ∃ cur : Array Value, w.heap[g]? = some (.cells cur e (0, 0)) ∧ l.length ≤ cap ∧ cap ≤ maxLen ∧ cur.size = cap ∧ cur.toList.take l.length = l.map enc := by
 obtain ⟨h1, h2⟩ := h
 rcases h2 with ⟨h3, _⟩ | ⟨g', cap', cur, hv, hb, hg, h4, h5, h6, h7⟩
 · cases h3
 · injection hv with e1 e2 e3
   injection e1 with e1; injection e1 with e1
   subst e1; subst e2; subst e3
   exact ⟨rfl, hb, (Array.getElem?_eq_some_iff.1 hg).1, cur, hg, h4, h5, by simpa using h6, by simpa using h7⟩
theorem OwnL.cell (h : OwnL enc e w B (.slice (some ⟨g, 0, none⟩) n cap) l) (j : Nat) (hj : j < l.length) : w.cell? ⟨g, j, none⟩ = some (enc l[j]) := by
 obtain ⟨_, _, _, cur, hg, _, _, _, h7⟩ := h.row
 rw [cell_of_row w g j cur e (0, 0) hg]
 have : (l.map enc)[j]? = some (enc l[j]) := by rw [List.getElem?_map, List.getElem?_eq_getElem hj]; rfl
 rw [← h7, List.getElem?_take, if_pos hj] at this
 simpa using this
theorem OwnL.free (h : OwnL enc e w B (.slice (some ⟨g, 0, none⟩) n cap) l) (j : Nat) : w.frozen? ⟨g, j, none⟩ = false := by
 obtain ⟨_, _, _, cur, hg, _⟩ := h.row
 exact frozen_of_row w g j cur e hg
theorem OwnL.set (h : OwnL enc e w B (.slice (some ⟨g, 0, none⟩) n cap) l) (j : Nat) (hj : j < l.length) (x : α) {u : Value} (hu : u = enc x) :
 OwnL enc e (w.setCell ⟨g, j, none⟩ u) B (.slice (some ⟨g, 0, none⟩) n cap) (l.set j x) := by
 subst hu
 obtain ⟨rfl, hb, _, cur, hg, h4, h5, h6, h7⟩ := h.row
 refine ⟨by simp, .inr ⟨g, cap, cur.setIfInBounds j (enc x), by rw [List.length_set], hb, ?_, by simpa using h4, h5, by simpa using h6, ?_⟩⟩
 · simp [World.setCell, Array.getElem?_modify, hg]
 · rw [List.length_set, Nat.mul_one, List.map_set, ← h7]
   rw [Array.toList_setIfInBounds, List.take_set]
theorem OwnL.setOther {v : Value} (h : OwnL enc e w B v l) {a : Addr} (ha : a.block < B) (u : Value) : OwnL enc e (w.setCell a u) B v l :=
 ownsRow_setCell_below h ha u
theorem map_replicate_enc (z : α) (n : Nat) : (List.replicate n z).map enc = List.replicate n (enc z) := by simp
theorem wpList_makeN {P : Program} {ops : Array Oper} {rest : List Oper} {o : Oper} {a : Act} {Q : Exit → Act → World → Prop} (hgd : o.guard = none) (lo c : Operand) (t : TypeId) (hop : o.op = Op.makeSlice t lo c)
 (z : α) (bytes : Nat) (ht : P.underlying t = some (.slice e)) (hinf : (P.info? e).map (fun i => (i.zero, i.size, i.bytes)) = some (some (enc z), 1, bytes)) (hzs : (enc z).cells = #[enc z])
 (kl kc : IntKind) (L C : Int) (n : Nat) (hl : a.eval lo = .int kl L) (hc : a.eval c = .int kc C) (hL : L = (n : Int)) (hC : C = (n : Int)) (hn : n ≤ 1099511627776) (hby : bytes ≤ 128) (hB : B ≤ w.heap.size)
 (h : ∀ w', OwnL enc e w' B (.slice (some ⟨w.heap.size, 0, none⟩) n n) (List.replicate n z) → Below w.heap.size w w' → wpList P ops Q rest (a.put o.dst (.slice (some ⟨w.heap.size, 0, none⟩) n n)) w') :
 wpList P ops Q (o :: rest) a w := by
 obtain ⟨i, hi, hz, hsz, hbt⟩ := info_parts hinf
 refine wpList_make_full w hgd lo c t hop B e i (enc z) 1 ht hi hz hsz kl kc L C n hl hc hL hC (by rw [hbt]; have := Nat.mul_le_mul hby hn; omega) (by simp only [maxLen]; omega) hB ?_
 intro w' k1 k2
 refine h w' ?_ ((Below.refl _ w).grown k2 (Nat.le_refl _) (fun k hk => by cases hk))
 have e1 : (madeCells (enc z).cells (n * 1)).toList = (List.replicate n z).map enc := by
  rw [hzs, map_replicate_enc]
  apply List.ext_getElem
  · simp [madeCells]
  · intro j h1 h2; simp [madeCells, Nat.mod_one]
 rw [e1] at k1
 unfold OwnL
 rw [List.length_replicate]
 exact k1
end
section
variable {α : Type} {enc : α → Value} {e : TypeId} {w : World} {B g n cap : Nat} {l : List α}
theorem OwnL.lit1 (w : World) (x : α) {u : Value} (hu : u = enc x) : OwnL enc e (w.alloc (.cells #[u] e)) w.heap.size (.slice (some ⟨w.heap.size, 0, none⟩) 1 1) [x] := by
 subst hu
 exact ⟨rfl, .inr ⟨w.heap.size, 1, #[enc x], rfl, Nat.le_refl _, heap_alloc_new w _, Nat.le_refl _, by simp [maxLen], rfl, rfl⟩⟩
theorem wpList_appRd {P : Program} {ops : Array Oper} {rest : List Oper} {o : Oper} {a : Act} {Q : Exit → Act → World → Prop} {v v2 : Value} {m : List α} (hgd : o.guard = none) (s x : Operand) (t : TypeId)
 (ho : o.op = .call { callee := .builtin .append, args := #[s, x], argTypes := #[t, t] })
 (z : Value) (bytes : Nat) (ht : P.underlying t = some (.slice e)) (hinf : (P.info? e).map (fun i => (i.zero, i.size, i.bytes)) = some (some z, 1, bytes)) (hzs : z.cells.size = 1)
 (h1 : ∀ x, (enc x).oneCell' = true) (hs : a.eval s = v) (hown : OwnL enc e w B v l) (hx : a.eval x = v2) (hr : Rd enc w v2 m)
 (hlen : l.length + m.length ≤ 1099511627776) (hby : bytes ≤ 128) (hB : B ≤ w.heap.size)
 (h : ∀ v' w', OwnL enc e w' B v' (l ++ m) → Below B w w' → wpList P ops Q rest (a.put o.dst v') w') : wpList P ops Q (o :: rest) a w := by
 obtain ⟨i, hi, hz, hsz, hbt⟩ := info_parts hinf
 rcases hr with ⟨rfl, rfl⟩ | ⟨b, off, c, rfl, h3, h4, h5, h6⟩
 · refine wpList_append_own_none hgd s x t ho B e i 1 ht hi v l.length (l.map enc) hs hown hx ?_
   rw [List.append_nil] at h
   exact h v w hown (Below.refl _ _)
 · refine wpList_append_own w hgd s x t ho B e i z 1 bytes ht hi hz hsz hbt hzs (by decide) v l.length (l.map enc) hs hown ⟨b, off, none⟩ m.length c (m.map enc) hx (by simp) ?_ ?_ (by simp only [maxLen]; omega) ?_ hB ?_
   · intro j u hu
     rw [List.getElem?_map] at hu
     cases hm : m[j]? with
     | none => rw [hm] at hu; cases hu
     | some y =>
       rw [hm] at hu
       cases hu
       have hadd : (⟨b, off, none⟩ : Addr).add j = ⟨b, off + j, none⟩ := by unfold Addr.add; split <;> simp_all
       rw [hadd]; exact h6 j y hm
   · intro u hu; obtain ⟨y, _, rfl⟩ := List.mem_map.1 hu; exact h1 _
   · have := Nat.mul_le_mul hlen hby; omega
   · intro v' w' k1 k2 _
     refine h v' w' (by simpa [OwnL] using k1) ?_
     exact (Below.refl B w).grown k2 hB (fun k hk => (World.ownsRow.lt hown k hk).1)
end
abbrev encB (c : UInt8) : Value := .int .u8 (c.toNat : Int)
theorem encB_one (c : UInt8) : (encB c).oneCell' = true := rfl
theorem foldl_push (l : List UInt8) : ∀ (s : ByteArray), (l.map (fun c => (c.toNat : Int))).foldl (fun r n => r.push (UInt8.ofNat n.toNat)) s = ⟨(s.data.toList ++ l).toArray⟩ := by
 induction l with
 | nil => intro s; apply ba_ext; simp
 | cons c t ih =>
   intro s
   rw [List.map_cons, List.foldl_cons, ih]
   apply ba_ext
   simp [ByteArray.push]
theorem run_string {P : Program} (w : World) (src dst e : TypeId) (hs : P.underlying src = some (.slice e)) (he : P.underlying e = some (.int .u8)) (hd : P.underlying dst = some .string)
 {v : Value} {l : List UInt8} (h : Rd encB w v l) : (Go.convert src dst v).run P w = .ok (.string ⟨l.toArray⟩) w := by
 rcases h with ⟨rfl, rfl⟩ | ⟨b, off, cap, rfl, h1, h2, h3, h4⟩
 · rw [run_convert_bytes_string w src dst e none 0 0 hs he hd]
   rfl
 · rw [run_convert_bytes_string w src dst e _ _ _ hs he hd, run_bytesToString w ⟨b, off, none⟩ l.length cap (l.map (fun c => (c.toNat : Int))) ?_, foldl_push]
   · rfl
   · have := run_loadCells_list (P := P) (w := w) ⟨b, off, none⟩ (l.map encB) (by
      intro j u hu
      rw [List.getElem?_map] at hu
      cases hm : l[j]? with
      | none => rw [hm] at hu; cases hu
      | some y =>
        rw [hm] at hu
        cases hu
        have hadd : (⟨b, off, none⟩ : Addr).add j = ⟨b, off + j, none⟩ := by unfold Addr.add; split <;> simp_all
        rw [hadd]; exact h4 j y hm)
     rw [List.length_map] at this
     rw [this, List.map_map]
     rfl
def Blk (w : World) (b : Nat) (cs : Array Value) (t : TypeId) : Prop := w.heap[b]? = some (.cells cs t (0, 0))
section
variable {w w' : World} {b : Nat} {cs : Array Value} {t : TypeId}
theorem Blk.new (w : World) (cs : Array Value) (t : TypeId) : Blk (w.alloc (.cells cs t)) w.heap.size cs t := heap_alloc_new w _
theorem Blk.newAt (w : World) (cs : Array Value) (t : TypeId) {b : Nat} (h : b = w.heap.size) : Blk (w.alloc (.cells cs t)) b cs t := by subst h; exact heap_alloc_new w _
theorem Blk.lt (h : Blk w b cs t) : b < w.heap.size := (Array.getElem?_eq_some_iff.1 h).1
theorem Blk.cell (h : Blk w b cs t) {i : Nat} {v : Value} (hv : cs[i]? = some v) : w.cell? ⟨b, i, none⟩ = some v := by
 rw [cell_of_row w b i cs t (0, 0) h]; exact hv
theorem Blk.free (h : Blk w b cs t) (i : Nat) : w.frozen? ⟨b, i, none⟩ = false := frozen_of_row w b i cs t h
theorem Blk.alloc (h : Blk w b cs t) (o : Obj) : Blk (w.alloc o) b cs t := (Below.heap_alloc w o b h.lt).trans h
theorem Blk.below {B : Nat} (h : Blk w b cs t) (hb : Below B w w') (hB : b < B) : Blk w' b cs t := (hb.block b hB).trans h
theorem Blk.drewN (h : Blk w b cs t) (n : Nat) : Blk (w.drewN n) b cs t := h
theorem Blk.set (h : Blk w b cs t) (i : Nat) (u : Value) : Blk (w.setCell ⟨b, i, none⟩ u) b (cs.setIfInBounds i u) t := by
 unfold Blk at *
 simp [World.setCell, Array.getElem?_modify, h]
theorem Blk.kept {row : Option Nat} (h : Blk w b cs t) (hg : w.grownBy w' row) (hr : ∀ r, row = some r → ∃ o : Obj, w.heap[r]? = some o ∧ o.isCells = false) : Blk w' b cs t := by
 refine (hg.block b h.lt ?_).trans h
 intro e
 obtain ⟨o, h1, h2⟩ := hr b e.symm
 rw [h] at h1
 cases h1
 cases h2
theorem Blk.setOther (h : Blk w b cs t) {a : Addr} (ha : a.block ≠ b) (u : Value) : Blk (w.setCell a u) b cs t :=
 (Below.heap_setCell w a u b (fun e => ha e.symm)).trans h
end
section
variable {α : Type} {enc : α → Value} {e : TypeId} {w : World} {B : Nat} {v : Value} {l : List α} {x : α}
theorem OwnL.some_of (h : OwnL enc e w B v (l ++ [x])) : ∃ g cap, v = .slice (some ⟨g, 0, none⟩) (l.length + 1) cap ∧ B ≤ g ∧ g < w.heap.size := by
 obtain ⟨h1, h2⟩ := h
 rcases h2 with ⟨_, h3⟩ | ⟨g, cap, cur, rfl, hb, hg, _⟩
 · simp at h3
 · exact ⟨g, cap, by rw [List.length_append]; rfl, hb, (Array.getElem?_eq_some_iff.1 hg).1⟩
theorem OwnL.cons_of (h : OwnL enc e w B v (x :: l)) : ∃ g cap, v = .slice (some ⟨g, 0, none⟩) (l.length + 1) cap ∧ B ≤ g ∧ g < w.heap.size := by
 obtain ⟨h1, h2⟩ := h
 rcases h2 with ⟨_, h3⟩ | ⟨g, cap, cur, rfl, hb, hg, _⟩
 · simp at h3
 · exact ⟨g, cap, rfl, hb, (Array.getElem?_eq_some_iff.1 hg).1⟩
end
section
variable {α : Type} {enc : α → Value} {e : TypeId} {w : World} {B : Nat} {v : Value} {l : List α} {F : Fence} {nF : Nat}
theorem ownL_cells {w' : World} (h : OwnL enc e w B v l) (hg : w.grownBy w' v.ownBlock) : KeepsOthers w w' := by
 refine ⟨hg.size, fun k o hk ho => (hg.block k (Array.getElem?_eq_some_iff.1 hk).1 ?_).trans hk⟩
 intro e1
 obtain ⟨_, h2⟩ := h
 rcases h2 with ⟨rfl, _⟩ | ⟨g, cap, cur, rfl, _, hgg, _⟩
 · cases e1
 · cases e1; rw [hgg] at hk; cases hk; cases ho
theorem wpListIn_appRd {P : Program} {ops : Array Oper} {rest : List Oper} {o : Oper} {a : Act} {Q : Exit → Act → World → Prop} {v2 : Value} {m : List α} (hgd : o.guard = none) (s x : Operand) (t : TypeId)
 (ho : o.op = .call { callee := .builtin .append, args := #[s, x], argTypes := #[t, t] })
 (z : Value) (bytes : Nat) (ht : P.underlying t = some (.slice e)) (hinf : (P.info? e).map (fun i => (i.zero, i.size, i.bytes)) = some (some z, 1, bytes)) (hzs : z.cells.size = 1)
 (h1 : ∀ x, (enc x).oneCell' = true) (hs : a.eval s = v) (hown : OwnL enc e w B v l) (hx : a.eval x = v2) (hr : Rd enc w v2 m)
 (hlen : l.length + m.length ≤ 1099511627776) (hby : bytes ≤ 128) (hB : B ≤ w.heap.size)
 (h : ∀ v' w', OwnL enc e w' B v' (l ++ m) → Below B w w' → KeepsOthers w w' → wpListIn F nF P ops Q rest (a.put o.dst v') w') : wpListIn F nF P ops Q (o :: rest) a w := by
 obtain ⟨i, hi, hz, hsz, hbt⟩ := info_parts hinf
 rcases hr with ⟨rfl, rfl⟩ | ⟨b, off, c, rfl, h3, h4, h5, h6⟩
 · refine wpListIn_plain hgd fun K hK => ?_
   have hrun := run_append_owned_none (P := P) (w := w) B t o.type e i 1 ht hi v l.length (l.map enc) hown
   unfold Oper.wpIn
   rw [List.append_nil] at h
   refine ⟨?_, ?_⟩
   · simp [Oper.about, ho, resolve, Target.leads, Sem.run_pure]
   · rw [Oper.semAt_plain F _ _ (by rw [ho]; intro c hc'; cases hc')]
     simp [execOp, ho, resolve, invoke, builtin, hs, hx, hrun, Result.andThen]
     exact hK _ _ (h v w hown (Below.refl _ _) (KeepsOthers.refl _))
 · refine wpListIn_append_own w hgd s x t ho B e i z 1 bytes ht hi hz hsz hbt hzs (by decide) v l.length (l.map enc) hs hown ⟨b, off, none⟩ m.length c (m.map enc) hx (by simp) ?_ ?_ (by simp only [maxLen]; omega) ?_ hB ?_
   · intro j u hu
     rw [List.getElem?_map] at hu
     cases hm : m[j]? with
     | none => rw [hm] at hu; cases hu
     | some y =>
       rw [hm] at hu
       cases hu
       have hadd : (⟨b, off, none⟩ : Addr).add j = ⟨b, off + j, none⟩ := by unfold Addr.add; split <;> simp_all
       rw [hadd]; exact h6 j y hm
   · intro u hu; obtain ⟨y, _, rfl⟩ := List.mem_map.1 hu; exact h1 _
   · have := Nat.mul_le_mul hlen hby; omega
   · intro v' w' k1 k2 _
     exact h v' w' (by simpa [OwnL] using k1) ((Below.refl B w).grown k2 hB (fun k hk => (World.ownsRow.lt hown k hk).1)) (ownL_cells hown k2)
theorem wpListIn_makeN {P : Program} {ops : Array Oper} {rest : List Oper} {o : Oper} {a : Act} {Q : Exit → Act → World → Prop} (hgd : o.guard = none) (lo c : Operand) (t : TypeId) (hop : o.op = Op.makeSlice t lo c)
 (z : α) (bytes : Nat) (ht : P.underlying t = some (.slice e)) (hinf : (P.info? e).map (fun i => (i.zero, i.size, i.bytes)) = some (some (enc z), 1, bytes)) (hzs : (enc z).cells = #[enc z])
 (kl kc : IntKind) (L C : Int) (n : Nat) (hl : a.eval lo = .int kl L) (hc : a.eval c = .int kc C) (hL : L = (n : Int)) (hC : C = (n : Int)) (hn : n ≤ 1099511627776) (hby : bytes ≤ 128) (hB : B ≤ w.heap.size)
 (h : ∀ w', OwnL enc e w' B (.slice (some ⟨w.heap.size, 0, none⟩) n n) (List.replicate n z) → Below w.heap.size w w' → wpListIn F nF P ops Q rest (a.put o.dst (.slice (some ⟨w.heap.size, 0, none⟩) n n)) w') :
 wpListIn F nF P ops Q (o :: rest) a w := by
 obtain ⟨i, hi, hz, hsz, hbt⟩ := info_parts hinf
 refine wpListIn_plain hgd fun K hK' => ?_
 obtain ⟨w', hrun, k1, k2⟩ := run_make_full (P := P) w B t e i (enc z) 1 ht hi hz hsz kl kc n (by rw [hbt]; have := Nat.mul_le_mul hby hn; omega) (by simp only [maxLen]; omega) hB
 subst hL
 subst hC
 have e1 : (madeCells (enc z).cells (n * 1)).toList = (List.replicate n z).map enc := by
  rw [hzs, map_replicate_enc]
  apply List.ext_getElem
  · simp [madeCells]
  · intro j h1 h2; simp [madeCells, Nat.mod_one]
 rw [e1] at k1
 unfold Oper.wpIn
 refine ⟨?_, ?_⟩
 · simp [Oper.about, hop, resolve, Target.leads, Sem.run_pure]
 · rw [Oper.semAt_plain F _ _ (by rw [hop]; intro c hc'; cases hc')]
   simp [execOp, hop, hl, hc, hrun, Result.andThen]
   refine hK' _ _ (h w' ?_ ((Below.refl _ w).grown k2 (Nat.le_refl _) (fun k hk => by cases hk)))
   unfold OwnL
   rw [List.length_replicate]
   exact k1
theorem OwnL.kept {w' : World} {row : Option Nat} (h : OwnL enc e w B v l) (hg : w.grownBy w' row) (hr : ∀ r, row = some r → ∃ o : Obj, w.heap[r]? = some o ∧ o.isCells = false) : OwnL enc e w' B v l := by
 obtain ⟨h1, h2⟩ := h
 refine ⟨h1, ?_⟩
 rcases h2 with h2 | ⟨g, cap, cur, rfl, hb, hgg, h4⟩
 · exact .inl h2
 · exact .inr ⟨g, cap, cur, rfl, hb, Blk.kept hgg hg hr, h4⟩
end
end Yk
namespace Yk
open Go
def noDefer (ops : Array Oper) : Bool := ops.all fun o => match o.op with | .defer _ => false | _ => true
theorem noDefer_at {ops : Array Oper} (h : noDefer ops = true) {i : Nat} {o : Oper} (ho : ops[i]? = some o) : ∀ c, o.op ≠ .defer c := by
 intro c hc
 obtain ⟨hi, rfl⟩ := Array.getElem?_eq_some_iff.1 ho
 have := Array.all_eq_true.1 h i hi
 rw [hc] at this
 cases this
theorem calls_inRound {P : Program} {f : FuncId} {args : Array Value} {w : World} {R : Ending → World → Prop} (l n : Nat) (h : Calls P f args w R) : CallsIn (Fence.wide.inRound l) n P f args w R := CallsIn.inRound l (callsIn_wide.2 h)
theorem operIn_of {P : Program} {o : Oper} {a : Act} {w : World} {K K' : Act → World → Prop} {Q : Exit → Act → World → Prop} (l n : Nat) (hd : ∀ c, o.op ≠ .defer c) (hQ : ∀ a w, ¬ Q .outgrown a w) (hK : ∀ a w, K a w → K' a w) (h : o.wp P a w K Q) :
 o.wpIn (Fence.wide.inRound l) n P a w K' Q := by
 unfold Oper.wpIn
 refine ⟨fun _ _ => trivial, ?_⟩
 rw [Fence.inRound_round, Oper.semAt_some l _ _ hd]
 unfold Oper.wp at h
 generalize (execOp a.eval o).run P w = r at h ⊢
 cases r with
 | ok x w' =>
   cases x with
   | value v => exact hK _ _ h
   | skip => exact hK _ _ h
   | defer d => exact hK _ _ h
   | enter f args =>
     refine ⟨fun h => (by cases h), (calls_inRound l (n - 1) h).mono ?_⟩
     intro e w'' he
     cases e with
     | returned v => exact hK _ _ he
     | panicked c => exact he
     | outgrown => obtain ⟨a, w, h⟩ := he; exact absurd h (hQ a w)
   | row r args => exact ⟨fun h => (by cases h), fun c cs _ => let ⟨v, w'', r, s⟩ := h c cs; ⟨v, w'', hK _ _ r, stepsIn_wide.2 s⟩⟩
   | _ => exact h.elim
 | halt x w' => cases x <;> exact h
theorem wpOpIn_of {P : Program} {ops : Array Oper} {Q : Exit → Act → World → Prop} {i : Nat} {a : Act} {w : World} {K K' : Act → World → Prop} (l n : Nat) (hd : noDefer ops = true) (hQ : ∀ a w, ¬ Q .outgrown a w) (hK : ∀ a w, K a w → K' a w) (h : wpOp P ops Q i K a w) :
 wpOpIn (Fence.wide.inRound l) n P ops Q i K' a w := by
 unfold wpOp at h
 unfold wpOpIn
 split at h
 · rename_i hn; simp only [hn]; exact hK _ _ h
 · rename_i o ho
   simp only [ho]
   split at h
   · rename_i hw
     simp only [hw, if_true]
     rcases h with h | ⟨_, a, w, h⟩
     · exact operIn_of l n (noDefer_at hd ho) hQ hK h
     · exact absurd h (hQ a w)
   · rename_i hw
     simp only [hw]
     exact ⟨fun _ _ => trivial, hK _ _ h⟩
theorem wpAnyIn_of {P : Program} {md : Region.Mode} {ops : Array Oper} {Q : Exit → Act → World → Prop} (l n : Nat) (hd : noDefer ops = true) (hQ : ∀ a w, ¬ Q .outgrown a w) : ∀ (fuel : Nat) (listed : Array Bool) (a : Act) (w : World), wpAny P md ops Q fuel listed a w → wpAnyIn (Fence.wide.inRound l) n P md ops Q fuel listed a w
 | 0, _, _, _, h => h
 | fuel + 1, _, _, _, h => ⟨h.1, fun i hi => wpOpIn_of l n hd hQ (fun a' w' => wpAnyIn_of l n hd hQ fuel _ a' w') (h.2 i hi)⟩
theorem wpIn_region_round {P : Program} {id : Nat} {ops : Array Oper} {Q : Exit → Act → World → Prop} {a : Act} {w : World} {l n : Nat} (S : World → Prop) (hm : P.follows .mixedOrders = true) (hd : noDefer ops = true) (hQ : ∀ a w, ¬ Q .outgrown a w)
 (h : wpAnyH P .any ops Q S ops.size (Array.replicate ops.size false) a w.drew) : (Code.region id ops true).wpIn (Fence.wide.inRound l) n P Q a w :=
 wpIn_region_any hm (wpAnyIn_of l n hd hQ _ _ _ _ (wpAny_of_held _ _ _ _ h))
end Yk
namespace Yk
open Go Go.RowKit
section
variable {T e : TypeId} {B b : Nat} {bs : List Value} {w w' : World}
theorem builderAtF_kept {p : Value} {row : Option Nat} (h : Lib.BuilderAtF T e B b p bs w) (hg : w.grownBy w' row) (hr : ∀ r, row = some r → ∃ o : Obj, w.heap[r]? = some o ∧ o.isCells = false) : Lib.BuilderAtF T e B b p bs w' := by
 obtain ⟨h1, v, h2, h3, h4⟩ := h
 refine ⟨h1, v, Blk.kept h2 hg hr, h3.kept hg ?_, h4⟩
 rcases Option.eq_none_or_eq_some v.ownBlock with e1 | ⟨g, e1⟩
 · exact .inl e1
 · refine .inr fun e2 => ?_
   obtain ⟨c, fz, hc⟩ := Lib.ownsRowF_kind h3 g e1
   obtain ⟨o, ho, hn⟩ := hr g (by rw [← e2, e1])
   rw [hc] at ho; cases ho; cases hn
theorem isBuilderF_kept {row : Option Nat} (h : Lib.IsBuilderF T e B b bs w) (hg : w.grownBy w' row) (hr : ∀ r, row = some r → ∃ o : Obj, w.heap[r]? = some o ∧ o.isCells = false) : Lib.IsBuilderF T e B b bs w' :=
 h.elim (fun h => .inl (builderAtF_kept h hg hr)) (fun h => .inr (builderAtF_kept h hg hr))
theorem isBuilderF_below (h : Lib.IsBuilderF T e B b bs w) (hb : Below w.heap.size w w') : Lib.IsBuilderF T e B b bs w' := by
 have key : ∀ p, Lib.BuilderAtF T e B b p bs w → Lib.BuilderAtF T e B b p bs w' := by
  rintro p ⟨h1, v, h2, h3, h4⟩
  refine ⟨h1, v, (hb.block b (Array.getElem?_eq_some_iff.1 h2).1).trans h2, ⟨h3.1, ?_⟩, h4⟩
  rcases h3.2 with h5 | ⟨g, cap, cur, fz, rfl, hB, hg, h6⟩
  · exact .inl h5
  · exact .inr ⟨g, cap, cur, fz, rfl, hB, (hb.block g (Array.getElem?_eq_some_iff.1 hg).1).trans hg, h6⟩
 exact h.elim (fun h => .inl (key _ h)) (fun h => .inr (key _ h))
theorem keepsOthers_of_othersKept (h : Lib.OthersKept e (some b) w w') (hb : ∃ cs t fz, w.heap[b]? = some (.cells cs t fz)) (hs : w.heap.size ≤ w'.heap.size) : KeepsOthers w w' := by
 refine ⟨hs, fun k o hk ho => h k o hk ?_ ?_⟩
 · intro e1; cases e1
   obtain ⟨cs, t, fz, h2⟩ := hb
   rw [h2] at hk; cases hk; cases ho
 · intro c fz e1; subst e1; cases ho
theorem isBuilderF_cells (h : Lib.IsBuilderF T e B b bs w) : ∃ cs t fz, w.heap[b]? = some (.cells cs t fz) := by
 rcases h with ⟨_, v, h2, _⟩ | ⟨_, v, h2, _⟩ <;> exact ⟨_, _, _, h2⟩
end
theorem blk2 {w : World} {b : Nat} {x y : Value} {t : TypeId} (h : Blk w b #[x, y] t) : w.cell? ⟨b, 0, none⟩ = some x ∧ w.cell? ⟨b, 1, none⟩ = some y ∧ w.frozen? ⟨b, 0, none⟩ = false ∧ w.frozen? ⟨b, 1, none⟩ = false ∧ b < w.heap.size :=
 ⟨h.cell rfl, h.cell rfl, h.free 0, h.free 1, h.lt⟩
theorem blk1 {w : World} {b : Nat} {x : Value} {t : TypeId} (h : Blk w b #[x] t) : w.cell? ⟨b, 0, none⟩ = some x ∧ w.frozen? ⟨b, 0, none⟩ = false ∧ b < w.heap.size :=
 ⟨h.cell rfl, h.free 0, h.lt⟩
end Yk
namespace Go.Proofs.YtnfamgpjehohaaaGreatDoor
open Go.RowKit Yk
attribute [local go_sem] Oper.semAt_some
def bwTo (l : List Nat) (k : Nat) : List (Nat × Nat) := (List.range k).map (fun j => (l.length - 1 - j, l.getD (l.length - 1 - j) 0))
theorem bwTo_succ (l : List Nat) (k : Nat) : bwTo l (k + 1) = bwTo l k ++ [(l.length - 1 - k, l.getD (l.length - 1 - k) 0)] := by simp [bwTo, List.range_succ]
theorem bwTo_length (l : List Nat) (k : Nat) : (bwTo l k).length = k := by simp [bwTo]
abbrev Place (l : List Nat) := { p : Nat × Nat // l[p.1]? = some p.2 }
abbrev encP {l : List Nat} (x : Place l) : Array Value := #[.int .i64 (x.1.1 : Int), .int .i64 (x.1.2 : Int)]
theorem bwTo_mem {l : List Nat} {k j : Nat} (hk : k ≤ l.length) (hj : j < l.length) (h : l.length - k ≤ j) : (j, l[j]) ∈ bwTo l k := by
 unfold bwTo
 rw [List.mem_map]
 refine ⟨l.length - 1 - j, List.mem_range.2 (by omega), ?_⟩
 have e : l.length - 1 - (l.length - 1 - j) = j := by omega
 rw [e]; simp [List.getElem?_eq_getElem hj]
theorem bw_drop {l m : List Nat} {k : Nat} {pre : List (Place l)} (hlen : l.length = m.length) (hk : k ≤ l.length) (h : pre.map (·.1) = bwTo l k) (hall : ∀ p ∈ pre, m[p.1.1]? = some p.1.2) : l.drop (l.length - k) = m.drop (l.length - k) := by
 apply List.ext_getElem
 · simp [hlen]
 · intro i h1 h2
   rw [List.length_drop] at h1 h2
   rw [List.getElem_drop, List.getElem_drop]
   have hmem := bwTo_mem (l := l) (j := l.length - k + i) hk (by omega) (by omega)
   rw [← h, List.mem_map] at hmem
   obtain ⟨p, hp, e⟩ := hmem
   have := hall p hp
   rw [e] at this
   exact ((List.getElem?_eq_some_iff.1 this).2).symm
theorem bw_last {l : List Nat} {k : Nat} {ini : List (Place l)} {last : Place l} (h : (ini ++ [last]).map (·.1) = bwTo l k) : ∃ j, k = j + 1 ∧ ini.map (·.1) = bwTo l j ∧ last.1.1 = l.length - 1 - j := by
 cases k with
 | zero => simp [bwTo] at h
 | succ j =>
   rw [bwTo_succ, List.map_append] at h
   obtain ⟨e1, e2⟩ := List.append_inj' h rfl
   simp only [List.map_cons, List.map_nil, List.cons.injEq, and_true] at e2
   exact ⟨j, rfl, e1, by rw [e2]⟩
def KpB (n₀ Bs : Nat) (A B : World) : Prop := Below n₀ A B ∧ B.heap[Bs]? = A.heap[Bs]?
theorem KpB.refl (n₀ Bs : Nat) (A : World) : KpB n₀ Bs A A := ⟨Below.refl _ _, rfl⟩
theorem KpB.trans {n₀ Bs : Nat} {A B C : World} (h : KpB n₀ Bs A B) (k : KpB n₀ Bs B C) : KpB n₀ Bs A C := ⟨h.1.trans k.1, k.2.trans h.2⟩
theorem KpB.of_below {n₀ Bs n : Nat} {A B : World} (h : Below n A B) (h0 : n₀ ≤ n) (hB : Bs < n) : KpB n₀ Bs A B := ⟨h.mono h0, h.block Bs hB⟩
theorem KpB.setCell {n₀ Bs : Nat} (A : World) {a : Addr} (h0 : n₀ ≤ a.block) (hB : a.block ≠ Bs) (u : Value) : KpB n₀ Bs A (A.setCell a u) := ⟨(Below.refl _ _).setCell h0 _, Below.heap_setCell _ _ _ _ (fun e => hB e.symm)⟩
theorem KpB.drewN {n₀ Bs : Nat} (A : World) (q : Nat) : KpB n₀ Bs A (A.drewN q) := ⟨(Below.refl _ _).drewN q, rfl⟩
theorem kpB_b {n₀ Bs : Nat} {w : World} (hn : n₀ ≤ w.heap.size) (hB : Bs < w.heap.size) (W : World) (l : Nat) (o o' : Obj) (hl : w.heap.size ≤ l) (h : W.heap[l]? = some o) (k1 : o.isCells = false) (k2 : o.isWalk = false) : KpB n₀ Bs W (W.putObj l o') :=
 ⟨belowK_b hn W l o o' hl h k1 k2, World.putObj_heap_other (by omega)⟩
theorem keepsOthers_of_below {n : Nat} {A B : World} (h : Below n A B) (hn : A.heap.size ≤ n) : KeepsOthers A B :=
 ⟨h.size, fun k o hk _ => (h.block k (by have := (Array.getElem?_eq_some_iff.1 hk).1; omega)).trans hk⟩
set_option maxRecDepth 100000 in
set_option maxHeartbeats 2000000 in
theorem backward1_in (F : Fence) (n : Nat) (hF : F.fn 185) (hro : F.round = none) (hn : 1 ≤ n) (l Bs n₀ b off cap : Nat) (zs : List Nat) (hreach : zs.length ≤ 1099511627776) (hb : b < n₀) (J Jx : List (Place zs) → World → Prop)
 (hY : ∀ pre x W, J pre W → pre.length < zs.length → YieldAt F (n - 1) Tryz.prog l (encP x) W fun e W' =>
   (e = .returned (.bool true) ∧ J (pre ++ [x]) W' ∧ KpB n₀ Bs W W') ∨ (e = .returned (.bool false) ∧ Jx (pre ++ [x]) W'))
 (W : World) (hBs : W.cell? ⟨Bs, 0, none⟩ = some (.slice (some ⟨b, off, none⟩) zs.length cap)) (hc : ∀ (j : Nat) x, zs[j]? = some x → W.cell? ⟨b, off + j, none⟩ = some (encN x)) (h0 : J [] W) :
 CallsIn F n Tryz.prog 185 #[.func (.yield l) #[] #[], .pointer (some ⟨Bs, 0, none⟩)] W fun e W' => (∃ v, e = .returned v) ∧
  ((∃ ys, ys.map (·.1) = bwTo zs zs.length ∧ J ys W') ∨ (∃ pre, (∃ k, k ≤ zs.length ∧ pre.map (·.1) = bwTo zs k) ∧ Jx pre W')) := by
 refine callsIn_of_wp Tryz.func185 rfl hF ?_ hro
 simp only [Tryz.ntmps185, List.size_toArray, List.length_cons, List.length_nil, Nat.reduceAdd, Nat.reduceSub, Array.replicate_succ, Array.replicate_zero, List.push_toArray, List.append_toArray, List.nil_append, List.cons_append]
 gi_wp2
 gi_loopw [3] (fun i wr => ∃ j k : Nat, ∃ pre : List (Place zs), j + k = zs.length ∧ i = .int .i64 ((j : Int) - 1) ∧ pre.map (·.1) = bwTo zs k ∧ J pre wr ∧ KpB n₀ Bs W wr)
  (fun i _ => (intOf i + 1).toNat)
 case atStart => exact ⟨zs.length, 0, [], by omega, rfl, rfl, h0, KpB.refl _ _ _⟩
 case round =>
  obtain ⟨j, k, pre, hjk, rfl, hpre, hJs, hnx⟩ := hrel
  have Hpre := Lib.hid hpre; clear hpre
  have hbs := (World.cell?_of_block (w := W) (w' := wr) (a := ⟨Bs, 0, none⟩) hnx.2).trans hBs
  cases j with
  | zero =>
    gi_wp2
    go_end0
    refine ⟨⟨_, rfl⟩, .inl ⟨pre, ?_, hJs⟩⟩
    rw [Hpre.out]; congr 1; omega
  | succ m =>
    have hm : m < zs.length := by omega
    have hcx : wr.cell? ⟨b, off + m, none⟩ = some (.int .i64 ((zs[m] : Nat) : Int)) := (hnx.1.cell (p := ⟨b, off + m, none⟩) hb).trans (hc m _ (List.getElem?_eq_getElem hm))
    obtain ⟨z, hz⟩ : ∃ z, zs[m] = z := ⟨_, rfl⟩
    rw [hz] at hcx
    have hmem : zs[m]? = some z := by rw [List.getElem?_eq_getElem hm, hz]
    obtain ⟨x, hx⟩ : ∃ x : Place zs, x.1 = (m, z) := ⟨⟨(m, z), hmem⟩, rfl⟩
    obtain ⟨fn, tmps, assign, body, hy, hR⟩ := hY pre x wr hJs (by have := congrArg List.length Hpre.out; rw [List.length_map, bwTo_length] at this; omega)
    dsimp only [encP] at hy
    rw [hx] at hy
    have Hx := Lib.hid hx
    have Hz := Lib.hid hz
    clear hz hmem hx
    have hnext : ∀ p : List (Place zs), p.map (·.1) = bwTo zs k → (p ++ [x]).map (·.1) = bwTo zs (k + 1) := by
     intro p hp
     rw [List.map_append, hp, bwTo_succ, List.map_cons, List.map_nil, Hx.out]
     have e1 : zs.length - 1 - k = m := by omega
     rw [e1]; simp [List.getElem?_eq_getElem hm, Hz.out]
    have Hnext := Lib.hid hnext; clear hnext
    gi_wp2
    refine hR.mono ?_
    rintro e W3 (⟨rfl, hJ3, hk3⟩ | ⟨rfl, hJx3⟩)
    · gi_wp2
      go_roundw
      case rel => exact ⟨m, k + 1, pre ++ [x], by omega, by simp, Hnext.out _ Hpre.out, hJ3, hnx.trans hk3⟩
      case measure => simp [intOf]
    · gi_wp2
      refine bodyPost_ret (results_none rfl _ _ _) rfl ?_
      exact ⟨⟨_, rfl⟩, .inr ⟨pre ++ [x], ⟨k + 1, by omega, Hnext.out _ Hpre.out⟩, hJx3⟩⟩
set_option maxRecDepth 100000 in
set_option maxHeartbeats 1000000 in
theorem backward1_nil_in (F : Fence) (n : Nat) (hF : F.fn 185) (hro : F.round = none) (l Bs : Nat) (J : World → Prop) (W : World) (hBs : W.cell? ⟨Bs, 0, none⟩ = some (.slice none 0 0)) (h0 : J W) :
 CallsIn F n Tryz.prog 185 #[.func (.yield l) #[] #[], .pointer (some ⟨Bs, 0, none⟩)] W fun e W' => (∃ v, e = .returned v) ∧ J W' := by
 refine callsIn_of_wp Tryz.func185 rfl hF ?_ hro
 simp only [Tryz.ntmps185, List.size_toArray, List.length_cons, List.length_nil, Nat.reduceAdd, Nat.reduceSub, Array.replicate_succ, Array.replicate_zero, List.push_toArray, List.append_toArray, List.nil_append, List.cons_append]
 gi_wp2
 gi_loopw [3] (fun i wr => i = .int .i64 (-1) ∧ J wr) (fun _ _ => 0)
 case atStart => exact ⟨rfl, h0⟩
 case round =>
  obtain ⟨rfl, hJs⟩ := hrel
  gi_wp2
  go_end0
  exact ⟨⟨_, rfl⟩, hJs⟩
theorem backward_any (a : Option Addr) (len cap : Nat) (w : World) :
 Calls Tryz.prog 154 #[.slice a len cap] w fun e w' => e = .returned (.func (.func 185) #[] #[.pointer (some ⟨w.heap.size, 0, none⟩)]) ∧ w' = w.alloc (.cells #[.slice a len cap] 142) := by
 go_enter Tryz.func154, Tryz.ntmps154
 go_wp2
 go_ret
 exact ⟨rfl, rfl⟩
theorem backward_stops (F : Fence) (n : Nat) (hF : F.fn 185) (hro : F.round = none) (hn : 1 ≤ n) (Bs n₀ : Nat) (sv : Value) (zs : List Nat) (hreach : zs.length ≤ 1099511627776) (w : World) (hBs : Bs < w.heap.size) (hn₀ : n₀ ≤ w.heap.size)
 (hc : w.cell? ⟨Bs, 0, none⟩ = some sv) (hI : Rd encN w sv zs) (hfr : ∀ k, sv.ownBlock = some k → k < n₀) :
 SeqStopsK F n Tryz.prog 185 #[.pointer (some ⟨Bs, 0, none⟩)] (fun x : Place zs => encP x) (KpB n₀ Bs) (fun ys => ys.map (·.1) = bwTo zs zs.length)
  (fun pre => ∃ k, k ≤ zs.length ∧ pre.map (·.1) = bwTo zs k) zs.length w := fun l J Jx W hW _ _ hY h0 => by
 have hc' := (hW.cell (p := ⟨Bs, 0, none⟩) hBs).trans hc
 rcases hI.below hW with ⟨rfl, rfl⟩ | ⟨b, off, cap, rfl, hb, _, _, hcs⟩
 · exact (backward1_nil_in F n hF hro l Bs (J []) W hc' h0).mono fun e W' ⟨he, hj⟩ => ⟨he, .inl ⟨[], rfl, hj⟩⟩
 · exact backward1_in F n hF hro hn l Bs n₀ b off cap zs hreach (hfr b rfl) J Jx hY W hc' hcs h0
theorem wp_backward {g : Operand} {ps : Array Tmp} {assign body : Code} {Q : Exit → Act → World → Prop} {a : Act} {w : World} {n : Nat} (hn : 3 ≤ n) (Bs n₀ : Nat)
 (hg : a.eval g = .func (.func 185) #[] #[.pointer (some ⟨Bs, 0, none⟩)]) (sv : Value) (zs : List Nat) (hreach : zs.length ≤ 1099511627776) (hBs : Bs < w.heap.size) (hn₀ : n₀ ≤ w.heap.size)
 (hc : w.cell? ⟨Bs, 0, none⟩ = some sv) (hI : Rd encN w sv zs) (hfr : ∀ k, sv.ownBlock = some k → k < n₀) (hps : ps.size = 2)
 (I : List (Place zs) → World → Prop) (Ix : Code → List (Place zs) → World → Prop) (hIo : OwnFrom w.heap.size I) (hIx : ∀ c, OwnFrom w.heap.size (Ix c)) (h0 : I [] w) (upd : Place zs → Array Value → Array Value)
 (hassign : ∀ (l : Nat) (x : Place zs) (W : World) (K : Act → World → Prop), K { tmps := upd x a.tmps, defers := [] } W →
   assign.wpIn (Fence.wide.inRound l) (n - 1 - 1) Tryz.prog (Exit.then K (fun _ _ _ => False)) { tmps := (ps.zip (encP x)).foldl (fun t (p, v) => t.setIfInBounds p v) a.tmps, defers := [] } W)
 (hbody : ∀ (l : Nat) (pre : List (Place zs)) (x : Place zs) (W : World), I pre W → pre.length < zs.length → body.wpIn (Fence.wide.inRound l) (n - 1 - 1) Tryz.prog (ownPostG w.heap.size (KpB n₀ Bs) I Ix (pre ++ [x]) W) { tmps := upd x a.tmps, defers := [] } W)
 (hdone : ∀ (D : Nat) (xs : List (Place zs)) (W : World), w.heap.size ≤ D → xs.map (·.1) = bwTo zs zs.length → I xs W → W.heap[D]? = some (.deferred (some [])) → Q .normal { a with defers := { target := .collected D, args := #[] } :: a.defers } W)
 (hstop : ∀ (D : Nat) (c : Code) (pre : List (Place zs)) (W : World), w.heap.size ≤ D → (∃ k, k ≤ zs.length ∧ pre.map (·.1) = bwTo zs k) → Ix c pre W → W.heap[D]? = some (.deferred (some [])) → c.wpIn Fence.wide n Tryz.prog Q { a with defers := { target := .collected D, args := #[] } :: a.defers } W) :
 (Code.rangeFunc g ps assign body).wpIn Fence.wide n Tryz.prog Q a w :=
 wpIn_rangeFunc_ownG rfl (by omega) (gf := 185) (lb := #[.pointer (some ⟨Bs, 0, none⟩)]) hg trivial (enters_of Tryz.func185 (by kernel_rfl) rfl)
  (backward_stops Fence.wide (n - 1) trivial rfl (by omega) Bs n₀ sv zs hreach w hBs hn₀ hc hI hfr) KpB.trans (kpB_b hn₀ hBs) (Below.refl _ _) (fun x => by rw [hps]; rfl) I Ix hIo hIx h0 (fun x => { tmps := upd x a.tmps, defers := [] }) hassign hbody hdone hstop
theorem ret_bool {a b : Bool} (h : a = b) : Ending.returned (.bool a) = .returned (.bool b) := by rw [h]
theorem rv_bad {s t : ByteArray} (ht : body s.data.toList = t.data.toList) {k : Nat} (hk : k < t.size) (h : (t[k].toNat : Int) < 48 ∨ 57 < (t[k].toNat : Int)) : false = vld s.data.toList :=
 (vld_not_digit (i := k) (c := t[k]) (by rw [ht]; exact ba_at t k hk) (by omega)).symm
theorem rv_end {s t : ByteArray} (ht : body s.data.toList = t.data.toList) (h0 : 0 < t.size) (h1 : t.size ≤ 200) (hd : ∀ (i : Nat) (h : i < t.size), 48 ≤ t[i].toNat ∧ t[i].toNat ≤ 57)
 (hz : s.data.toList = [48] ↔ t.toList = [48]) :
 (t.toList == [48] || ((t[0].toNat : Int) != 48)) = vld s.data.toList := by
 rw [vld_rest (by rw [ht]; intro e; have := ba_len t; rw [e] at this; simp at this; omega) (by rw [ht, ba_len]; exact h1) (by
  intro i c hc
  rw [ht] at hc
  have hi : i < t.size := by have := (List.getElem?_eq_some_iff.1 hc).1; rwa [ba_len] at this
  rw [ba_at t i hi] at hc
  cases hc
  exact hd i hi)]
 rw [ht, List.head?_eq_getElem?, ba_at t 0 h0]
 by_cases e1 : t.toList = [48]
 · simp [e1, hz.2 e1]
 · have e2 : ¬ s.data.toList = [48] := fun h => e1 (hz.1 h)
   simp only [e1, e2, decide_false, Bool.false_or, beq_eq_false_iff_ne.2 e1]
   by_cases e3 : t[0] = 48
   · simp [e3]
   · have e4 : t[0].toNat ≠ 48 := fun h => e3 (UInt8.toNat_inj.1 h)
     have e5 : ((t[0].toNat : Int) != 48) = true := by rw [bne_iff_ne]; omega
     simp [e3, e5]
theorem vld_neg_zero {l : List UInt8} (hh : l.head? = some 45) (h : body l = [48]) : false = vld l := by
 have : l ≠ [48] := by intro e; rw [e] at hh; simp at hh
 simp [vld, h, this]
set_option maxHeartbeats 400000 in
theorem refValid_any (s : ByteArray) (w : World) (hs : s.size ≤ maxLen) :
 Calls Tryz.prog 108 #[.string s] w fun e w' => e = .returned (.bool (vld s.data.toList)) ∧ w = w' := by
 unfold maxLen at hs
 by_cases h0 : 0 < s.size
 · by_cases h45 : s[0] = 45
   · have hhd : s.data.toList.head? = some 45 := by rw [List.head?_eq_getElem?, ba_at s 0 h0, h45]
     have c1 : ((s[0].toNat : Int) == 45) = true := by rw [h45]; decide
     obtain ⟨t, hx⟩ : ∃ t, s.extract 1 s.size = t := ⟨_, rfl⟩
     have ht : body s.data.toList = t.data.toList := by rw [← hx, body_neg hhd, ba_tail]
     have hts : t.size ≤ 9223372036854775807 := by rw [← hx]; simp; omega
     have hz : t.toList = [48] → false = vld s.data.toList := fun h => vld_neg_zero hhd (by rw [ht, ← ba_toList, h])
     have hz2 : ¬ t.toList = [48] → (s.data.toList = [48] ↔ t.toList = [48]) := fun h => ⟨fun e => by rw [e] at hhd; simp at hhd, fun e => absurd e h⟩
     have Ht := Lib.hid ht; clear ht
     clear h45 hhd
     by_cases c : t.toList = [48]
     · have Hz := Lib.hid (hz c); clear hz hz2
       have c2 : (t.toList == [48]) = true := by simp [c]
       clear c
       go_enter Tryz.func108, Tryz.ntmps108
       go_wp2
       go_ret
       exact ⟨ret_bool Hz.out, rfl⟩
     · have Hz := Lib.hid (hz2 c); clear hz hz2
       have c2 : (t.toList == [48]) = false := by simp [c]
       clear c
       go_enter Tryz.func108, Tryz.ntmps108
       go_wp2
       clear c1 c2 hx
       go_loop [3] (fun i => ∃ k : Nat, k ≤ t.size ∧ i = .int .i64 k ∧ ∀ (j : Nat) (h : j < t.size), j < k → 48 ≤ t[j].toNat ∧ t[j].toNat ≤ 57) (fun i => (t.size - intOf i).toNat)
       case atStart => exact ⟨0, by omega, rfl, by omega⟩
       case round =>
        obtain ⟨k, hk, rfl, hd⟩ := hrel
        have Hd := Lib.hid hd; clear hd
        go_wp2
        · go_ret
          exact ⟨ret_bool (rv_bad Ht.out ‹k < t.size› (by omega)), rfl⟩
        · go_round
          case rel =>
           refine ⟨k + 1, by omega, by go_num, fun j h hj => ?_⟩
           by_cases e : j < k
           · exact Hd.out j h e
           · obtain rfl : j = k := by omega
             omega
          case measure => simp [intOf]; omega
        · go_ret
          exact ⟨ret_bool (rv_bad Ht.out ‹k < t.size› (by omega)), rfl⟩
        · go_ret
          have e : t.toList = [48] := by assumption
          refine ⟨ret_bool ?_, rfl⟩
          rw [← rv_end Ht.out (by omega) (by omega) (fun j h => Hd.out j h (by omega)) Hz.out]
          simp [e]
        · go_ret
          exact ⟨ret_bool (rv_end Ht.out (by omega) (by omega) (fun j h => Hd.out j h (by omega)) Hz.out), rfl⟩
        · go_ret
          exact ⟨ret_bool (vld_long (by rw [Ht.out, ba_len]; omega)).symm, rfl⟩
        · go_ret
          exact ⟨ret_bool (vld_empty (by rw [Ht.out]; exact List.eq_nil_of_length_eq_zero (by rw [ba_len]; omega))).symm, rfl⟩
   · have hhd : s.data.toList.head? ≠ some 45 := by rw [List.head?_eq_getElem?, ba_at s 0 h0]; simpa using h45
     have c1 : ((s[0].toNat : Int) == 45) = false := by
      have : s[0].toNat ≠ 45 := fun h => h45 (UInt8.toNat_inj.1 h)
      rw [beq_eq_false_iff_ne]; omega
     have ht : body s.data.toList = s.data.toList := body_pos hhd
     have Ht := Lib.hid ht; clear ht
     have Hz := Lib.hid (show s.data.toList = [48] ↔ s.toList = [48] by rw [ba_toList]); clear hhd h45
     · go_enter Tryz.func108, Tryz.ntmps108
       go_wp2
       clear c1
       go_loop [3] (fun i => ∃ k : Nat, k ≤ s.size ∧ i = .int .i64 k ∧ ∀ (j : Nat) (h : j < s.size), j < k → 48 ≤ s[j].toNat ∧ s[j].toNat ≤ 57) (fun i => (s.size - intOf i).toNat)
       case atStart => exact ⟨0, by omega, rfl, by omega⟩
       case round =>
        obtain ⟨k, hk, rfl, hd⟩ := hrel
        have Hd := Lib.hid hd; clear hd
        go_wp2
        · go_ret
          exact ⟨ret_bool (rv_bad Ht.out ‹k < s.size› (by omega)), rfl⟩
        · go_round
          case rel =>
           refine ⟨k + 1, by omega, by go_num, fun j h hj => ?_⟩
           by_cases e : j < k
           · exact Hd.out j h e
           · obtain rfl : j = k := by omega
             omega
          case measure => simp [intOf]; omega
        · go_ret
          exact ⟨ret_bool (rv_bad Ht.out ‹k < s.size› (by omega)), rfl⟩
        · go_ret
          have e : s.toList = [48] := by assumption
          refine ⟨ret_bool ?_, rfl⟩
          rw [← rv_end Ht.out (by omega) (by omega) (fun j h => Hd.out j h (by omega)) Hz.out]
          simp [e]
        · go_ret
          exact ⟨ret_bool (rv_end Ht.out (by omega) (by omega) (fun j h => Hd.out j h (by omega)) Hz.out), rfl⟩
        · go_ret
          exact ⟨ret_bool (vld_long (by rw [Ht.out, ba_len]; omega)).symm, rfl⟩
 · obtain rfl : s = ByteArray.empty := ba_ext (by rw [List.eq_nil_of_length_eq_zero (l := s.data.toList) (by rw [ba_len]; omega)]; rfl)
   go_enter Tryz.func108, Tryz.ntmps108
   go_wp2
   go_loop [3] (fun i => i = .int .i64 0) (fun _ => 0)
   case atStart => rfl
   case round =>
    subst hrel
    go_wp2
    go_ret
    exact ⟨ret_bool (by decide), rfl⟩
def Glob (w : World) : Prop :=
 (∃ m, w.cell? ⟨0, 0, none⟩ = some (.int .i64 m)) ∧ Lib.TabIs Tryz.prog w "internal/strconv.uint64pow10" .u64 Lib.pow10Tab ∧ 1 < w.heap.size
theorem gPow : Tryz.prog.globalNamed "internal/strconv.uint64pow10" = some 1 := by kernel_rfl
theorem Glob.below {w w' : World} (h : Glob w) (hb : Below w.heap.size w w') : Glob w' := by
 obtain ⟨⟨m, h1⟩, h2, h3⟩ := h
 refine ⟨⟨m, ?_⟩, var?_below hb gPow h3 h2, Nat.lt_of_lt_of_le h3 hb.size⟩
 rw [hb.cell (p := ⟨0, 0, none⟩) (World.block_lt_of_cell? w _ h1)]
 exact h1
theorem trimPrefix_body (l : List UInt8) : Lib.trimPrefix l [45] = body l := by
 unfold Lib.trimPrefix Lib.hasPrefix body
 cases l with
 | nil => simp
 | cons c t =>
   by_cases h : c = 45
   · subst h; simp
   · have h2 : ¬ (45 = c) := fun e => h e.symm
     simp [List.isPrefixOf, h, h2]
theorem libTrimPrefix (s : ByteArray) (w : World) :
 Calls Tryz.prog 156 #[.string s, .string ⟨#[45]⟩] w fun e w' => ∃ t, e = .returned (.string t) ∧ t.data.toList = body s.data.toList ∧ w = w' := by
 refine (Tryz.strings_TrimPrefix s ⟨#[45]⟩ w).mono ?_
 rintro e w' ⟨rfl, rfl⟩
 exact ⟨_, rfl, by rw [← trimPrefix_body], rfl⟩
theorem digits_contains (c : UInt8) : [48, 49, 50, 51, 52, 53, 54, 55, 56, 57].contains c = dig c := by
 rw [Bool.eq_iff_iff, dig_iff]
 simp only [List.contains_iff_mem, List.mem_cons, List.not_mem_nil, or_false]
 constructor
 · rintro (h | h | h | h | h | h | h | h | h | h) <;> subst h <;> decide
 · intro h
   have : ∀ k : Fin 10, c.toNat = 48 + k.val → c = UInt8.ofNat (48 + k.val) := by
    intro k hk; apply UInt8.toNat_inj.1; rw [hk]; simp; omega
   have h2 := this ⟨c.toNat - 48, by omega⟩ (by simp; omega)
   simp only at h2
   have h3 : c.toNat - 48 = 0 ∨ c.toNat - 48 = 1 ∨ c.toNat - 48 = 2 ∨ c.toNat - 48 = 3 ∨ c.toNat - 48 = 4 ∨ c.toNat - 48 = 5 ∨ c.toNat - 48 = 6 ∨ c.toNat - 48 = 7 ∨ c.toNat - 48 = 8 ∨ c.toNat - 48 = 9 := by omega
   rcases h3 with h | h | h | h | h | h | h | h | h | h <;> rw [h] at h2 <;> rw [h2] <;> decide
theorem dropWhile_nil_iff (p : UInt8 → Bool) (l : List UInt8) : l.dropWhile p = [] ↔ l.all p = true := by
 induction l with
 | nil => simp
 | cons a t ih =>
   rw [List.dropWhile_cons]
   split
   · rename_i h; rw [ih]; simp [h]
   · rename_i h; simp [h]
theorem trimS_nil (l : List UInt8) : Lib.trimS l [48, 49, 50, 51, 52, 53, 54, 55, 56, 57] = [] ↔ l.all dig = true := by
 have hc : (fun c : UInt8 => [48, 49, 50, 51, 52, 53, 54, 55, 56, 57].contains c) = dig := funext digits_contains
 unfold Lib.trimS Lib.trimLeftS Lib.trimRightS
 rw [hc, dropWhile_nil_iff, List.all_reverse]
 constructor
 · intro h
   cases hd : l.reverse.dropWhile dig with
   | nil =>
     have := (dropWhile_nil_iff dig l.reverse).1 hd
     rwa [List.all_reverse] at this
   | cons a t =>
     exfalso
     have h1 : dig a = false := by
      have := List.head?_dropWhile_not dig l.reverse
      rw [hd] at this
      simpa using this
     rw [hd] at h
     simp [h1] at h
 · intro h
   have : l.reverse.dropWhile dig = [] := (dropWhile_nil_iff dig l.reverse).2 (by rwa [List.all_reverse])
   rw [this]; rfl
theorem libTrimDigits (s : ByteArray) (w : World) (hs : s.size ≤ maxLen) :
 Calls Tryz.prog 157 #[.string s, .string ⟨#[48, 49, 50, 51, 52, 53, 54, 55, 56, 57]⟩] w fun e w' => ∃ t, e = .returned (.string t) ∧ t.toList.isEmpty = s.data.toList.all dig ∧ Below w.heap.size w w' := by
 refine (Any.strings_Trim_laid Tryz.lays160 (by kernel_rfl) s ⟨#[48, 49, 50, 51, 52, 53, 54, 55, 56, 57]⟩ w (by simpa [maxLen] using hs) (by decide) (ascii_of_all (by decide))).mono ?_
 rintro e w' ⟨rfl, hb⟩
 refine ⟨_, rfl, ?_, hb⟩
 rw [ba_toList]
 have h := trimS_nil s.data.toList
 rw [Bool.eq_iff_iff, List.isEmpty_iff]
 exact h
theorem body_le (l : List UInt8) : (body l).length ≤ l.length := by
 unfold body; split
 · rw [List.length_tail]; omega
 · exact Nat.le_refl _
theorem isEmpty_ba (t : ByteArray) : t.toList.isEmpty = decide (t.data.toList = []) := by
 rw [ba_toList]; cases t.data.toList <;> simp
theorem iv_zero {s : ByteArray} (h : s.toList = [48]) : true = vS s := by
 rw [ba_toList] at h
 unfold vS; rw [h]; decide
theorem iv_end {s t : ByteArray} (ht : t.data.toList = body s.data.toList) (h0 : 0 < t.size) (h1 : ¬ 200 < (body s.data.toList).length) (hd : (body s.data.toList).all dig = true) (hs : ¬ s.toList = [48]) :
 ((t[0].toNat : Int) != 48) = vS s := by
 have e : (body s.data.toList).head? = some t[0] := by rw [← ht, List.head?_eq_getElem?, ba_at t 0 h0]
 rw [ba_toList] at hs
 unfold vS
 rw [vld_rest (by intro e2; rw [e2] at e; simp at e) (by omega) (fun i c hc => (dig_iff c).1 (List.all_eq_true.1 hd c (List.mem_of_getElem? hc))), e]
 have e2 : decide (s.data.toList = [48]) = false := by simp [hs]
 rw [e2, Bool.false_or]
 by_cases e3 : t[0] = 48
 · simp [e3]
 · have e4 : t[0].toNat ≠ 48 := fun h => e3 (UInt8.toNat_inj.1 h)
   have e5 : ((t[0].toNat : Int) != 48) = true := by rw [bne_iff_ne]; omega
   simp [e3, e5]
theorem iv_bad {s : ByteArray} (h : ¬ (body s.data.toList).all dig = true) : false = vS s := by
 cases hv : vS s with
 | false => rfl
 | true =>
   have := (vld_parts hv).2.2.1
   exact absurd (List.all_eq_true.2 this) h
set_option maxRecDepth 100000 in
theorem isValid_any (s : ByteArray) (w : World) (hs : s.size ≤ maxLen) :
 Calls Tryz.prog 131 #[.string s] w fun e w' => e = .returned (.bool (vS s)) ∧ Below w.heap.size w w' := by
 have Hp := Lib.hid (libTrimPrefix s)
 have hbl := body_le s.data.toList
 rw [ba_len] at hbl
 by_cases h1 : body s.data.toList = []
 · have hv : vS s = false := vld_empty h1
   rw [hv]
   rw [h1] at Hp
   clear h1 hv hbl
   go_enter Tryz.func131, Tryz.ntmps131
   go_wp2_with (go_at_call 156; refine (Hp.out _).mono ?_; rintro e w1 ⟨t, rfl, ht, rfl⟩; have c1 : t.toList.isEmpty = true := by { rw [isEmpty_ba, ht]; rfl }; have Ht := Lib.hid ht; clear ht)
   go_ret
   exact ⟨rfl, Below.refl _ _⟩
 · by_cases h2 : 200 < (body s.data.toList).length
   · have hv : vS s = false := vld_long h2
     rw [hv]
     clear hv
     have H1 := Lib.hid h1; clear h1
     go_enter Tryz.func131, Tryz.ntmps131
     go_wp2_with (go_at_call 156; refine (Hp.out _).mono ?_; rintro e w1 ⟨t, rfl, ht, rfl⟩; have c1 : t.toList.isEmpty = false := by { rw [isEmpty_ba, ht]; simp [H1.out] }; rw [← ht, ba_len] at h2 hbl; have c2 : (200 : Int) < (t.size : Int) := by { omega }; have Ht := Lib.hid ht; clear ht h2)
     go_ret
     exact ⟨rfl, Below.refl _ _⟩
   · have Hm := Lib.hid (fun (t : ByteArray) (h : t.data.toList = body s.data.toList) => libTrimDigits t)
     by_cases h3 : (body s.data.toList).all dig = true
     · have H1 := Lib.hid h1; clear h1
       have H2 := Lib.hid h2
       have H3 := Lib.hid h3; clear h3
       by_cases h4 : s.toList = [48]
       · have Hz := Lib.hid (iv_zero h4)
         have c4 : (s.toList == [48]) = true := by simp [h4]
         clear h4
         go_enter Tryz.func131, Tryz.ntmps131
         go_wp2_with (first
          | (go_at_call 156; refine (Hp.out _).mono ?_; rintro e w1 ⟨t, rfl, ht, rfl⟩; have c1 : t.toList.isEmpty = false := by { rw [isEmpty_ba, ht]; simp [H1.out] }; have Ht := Lib.hid ht; rw [← ht, ba_len] at h2 hbl; have c2 : ¬ (200 : Int) < (t.size : Int) := by { omega }; clear ht h2)
          | (go_at_call 157; refine (Hm.out _ Ht.out _ (by unfold maxLen at *; omega)).mono ?_; rintro e w2 ⟨t2, rfl, ht2, hb2⟩; rw [Ht.out, H3.out] at ht2))
         go_ret
         exact ⟨ret_bool Hz.out, hb2⟩
       · have H4 := Lib.hid h4
         have c4 : (s.toList == [48]) = false := by simp [h4]
         clear h4
         go_enter Tryz.func131, Tryz.ntmps131
         go_wp2_with (first
          | (go_at_call 156; refine (Hp.out _).mono ?_; rintro e w1 ⟨t, rfl, ht, rfl⟩; have c1 : t.toList.isEmpty = false := by { rw [isEmpty_ba, ht]; simp [H1.out] }; have Ht := Lib.hid ht; have h5 : 0 < t.size := by { apply Nat.pos_of_ne_zero; intro e0; apply H1.out; rw [← ht]; exact List.eq_nil_of_length_eq_zero (by rw [ba_len]; exact e0) }; rw [← ht, ba_len] at h2 hbl; have c2 : ¬ (200 : Int) < (t.size : Int) := by { omega }; clear ht h2)
          | (go_at_call 157; refine (Hm.out _ Ht.out _ (by unfold maxLen at *; omega)).mono ?_; rintro e w2 ⟨t2, rfl, ht2, hb2⟩; rw [Ht.out, H3.out] at ht2))
         go_ret
         exact ⟨ret_bool (iv_end Ht.out h5 H2.out H3.out H4.out), hb2⟩
     · have H1 := Lib.hid h1; clear h1
       have Hz := Lib.hid (iv_bad h3)
       have H3 : Hid ((body s.data.toList).all dig = false) := by { show (body s.data.toList).all dig = false; exact Bool.eq_false_iff.2 h3 }
       clear h3
       go_enter Tryz.func131, Tryz.ntmps131
       go_wp2_with (first
        | (go_at_call 156; refine (Hp.out _).mono ?_; rintro e w1 ⟨t, rfl, ht, rfl⟩; have c1 : t.toList.isEmpty = false := by { rw [isEmpty_ba, ht]; simp [H1.out] }; have Ht := Lib.hid ht; rw [← ht, ba_len] at h2 hbl; have c2 : ¬ (200 : Int) < (t.size : Int) := by { omega }; clear ht h2)
        | (go_at_call 157; refine (Hm.out _ Ht.out _ (by unfold maxLen at *; omega)).mono ?_; rintro e w2 ⟨t2, rfl, ht2, hb2⟩; rw [Ht.out, H3.out] at ht2))
       go_ret
       exact ⟨ret_bool Hz.out, hb2⟩
set_option maxRecDepth 100000 in
theorem intValid_any (s : ByteArray) (w : World) (hs : s.size ≤ maxLen) :
 Calls Tryz.prog 104 #[.string s] w fun e w' => e = .returned (.bool (vS s)) ∧ Below w.heap.size w w' := by
 go_enter Tryz.func104, Tryz.ntmps104
 go_wp2_with (go_at_call 131; refine (isValid_any s _ hs).mono ?_; rintro e w1 ⟨rfl, hb⟩)
 go_ret
 exact ⟨rfl, hb⟩
theorem infoInt : (Tryz.prog.info? 3).map (fun i => (i.zero, i.size, i.bytes)) = some (some (.int .i64 0), 1, 8) := by kernel_rfl
theorem appN {w : World} {ops : Array Oper} {rest : List Oper} {o : Oper} {a : Act} {Q : Exit → Act → World → Prop} {B : Nat} {v : Value} {l : List Nat} (hgd : o.guard = none) (s x : Operand)
 (ho : o.op = .call { callee := .builtin .append, args := #[s, x], argTypes := #[132, 132] }) (hs : a.eval s = v) (hown : OwnL encN 3 w B v l) (b : Nat) (c : Nat) (u : Value)
 (hx : a.eval x = .slice (some ⟨b, 0, none⟩) 1 c) (hc : w.cell? ⟨b, 0, none⟩ = some u) (y : Nat) (hu : u = encN y) (hlen : l.length + 1 ≤ 1099511627776) (hB : B ≤ w.heap.size)
 (h : ∀ v' w', OwnL encN 3 w' B v' (l ++ [y]) → Below B w w' → wpList Tryz.prog ops Q rest (a.put o.dst v') w') : wpList Tryz.prog ops Q (o :: rest) a w :=
 wpList_app1 hgd s x 132 ho (.int .i64 0) 8 Tryz.underlying132 infoInt rfl encN_one hs hown ⟨b, 0, none⟩ c u hx hc y hu hlen (by decide) hB h
theorem refDigits_step (t : ByteArray) (k : Nat) (h : k < t.size) :
 (t.data.toList.reverse.take (k + 1)).map dv = (t.data.toList.reverse.take k).map dv ++ [dv t[t.size - 1 - k]] := by
 rw [List.take_add_one, List.getElem?_reverse (by rw [ba_len]; exact h), ba_len, ba_at t (t.size - 1 - k) (by omega)]
 simp
set_option maxHeartbeats 400000 in
set_option maxRecDepth 100000 in
theorem refDigits_any (s : ByteArray) (w : World) (hs : vld s.data.toList = true) :
 Calls Tryz.prog 124 #[.string s] w fun e w' => ∃ v, e = .returned (.tuple #[.bool (negB s.data.toList), v]) ∧ Rd encN w' v (digs 10 (toI s.data.toList).natAbs) ∧ From w.heap.size v ∧ Below w.heap.size w w' := by
 rw [toI_abs]
 obtain ⟨a1, a2, a3, a4⟩ := vld_parts hs
 have h0 : 0 < s.size := by
  apply Nat.pos_of_ne_zero
  intro e
  have : s.data.toList = [] := List.eq_nil_of_length_eq_zero (by rw [ba_len]; exact e)
  rw [this] at a1; exact a1 rfl
 by_cases h45 : s[0] = 45
 · have hhd : s.data.toList.head? = some 45 := by rw [List.head?_eq_getElem?, ba_at s 0 h0, h45]
   have c1 : ((s[0].toNat : Int) == 45) = true := by rw [h45]; decide
   have hneg : negB s.data.toList = true := by simp [negB, hhd]
   have hne : s.data.toList ≠ [48] := by intro e; rw [e] at hhd; simp at hhd
   have hdt := digs_text hs hne
   obtain ⟨t, hx⟩ : ∃ t, s.extract 1 s.size = t := ⟨_, rfl⟩
   have ht : body s.data.toList = t.data.toList := by rw [← hx, body_neg hhd, ba_tail]
   have c2 : (!t.toList == [48]) = true := by
    have : t.toList ≠ [48] := by rw [ba_toList, ← ht]; exact body_ne_zero hs hne
    simp [this]
   rw [ht] at a2 a3 hdt ⊢
   rw [ba_len] at a2
   have Hdt := Lib.hid hdt; clear hdt
   have Ha3 := Lib.hid a3; clear a3
   rw [hneg]
   clear ht hneg hne a1 a4 hhd h45 hs
   go_enter Tryz.func124, Tryz.ntmps124
   go_wp2
   clear c1 hx
   go_loopw [5, 6] (fun out i wr => ∃ j : Nat, j ≤ t.size ∧ i = .int .i64 ((j : Int) - 1) ∧ OwnL encN 3 wr w.heap.size out ((t.data.toList.reverse.take (t.size - j)).map dv) ∧ Below w.heap.size w wr) (fun _ i _ => (intOf i + 1).toNat)
   case atStart => exact ⟨t.size, Nat.le_refl _, rfl, by rw [Nat.sub_self]; exact OwnL.nil _ _, Below.refl _ _⟩
   case round =>
    obtain ⟨j, hj, rfl, hown, hB⟩ := hrel
    cases j with
    | zero =>
      go_wp2
      go_ret2
      refine ⟨_, rfl, ?_, hown.from, hB⟩
      have := hown.rd
      rwa [Nat.sub_zero, List.take_of_length_le (by rw [List.length_reverse, ba_len]; exact Nat.le_refl _), Hdt.out] at this
    | succ m =>
      have hd : 48 ≤ t[m].toNat ∧ t[m].toNat ≤ 57 := (dig_iff _).1 (Ha3.out _ (List.mem_of_getElem? (ba_at t m (by omega))))
      have hsz := hB.size
      have hl : ((t.data.toList.reverse.take (t.size - (m + 1))).map dv).length ≤ t.size := by rw [List.length_map, List.length_take]; omega
      go_wp2_with (at_builtin; refine appN rfl _ _ rfl rfl (hown.alloc _) wr.heap.size 1 _ rfl (cell_new1 _ _ _) (dv t[m]) (by simp only [encN, dv]; congr 1; omega) (by omega) (by simp; omega) ?_; intro v' w1 hown1 hB1)
      go_roundw
      case rel =>
       refine ⟨m, by omega, by go_num, ?_, ((hB.alloc hB.size _).trans hB1)⟩
       have e := refDigits_step t (t.size - (m + 1)) (by omega)
       rw [show t.size - (m + 1) + 1 = t.size - m by omega] at e
       rw [e]
       simpa only [show t.size - 1 - (t.size - (m + 1)) = m by omega] using hown1
      case measure => simp [intOf]
 · have hhd : s.data.toList.head? ≠ some 45 := by rw [List.head?_eq_getElem?, ba_at s 0 h0]; simpa using h45
   have c1 : ((s[0].toNat : Int) == 45) = false := by
    have : s[0].toNat ≠ 45 := fun h => h45 (UInt8.toNat_inj.1 h)
    rw [beq_eq_false_iff_ne]; omega
   have hneg : negB s.data.toList = false := by simp [negB, hhd]
   have hb : body s.data.toList = s.data.toList := body_pos hhd
   rw [hneg]
   by_cases hne : s.data.toList = [48]
   · obtain rfl : s = ⟨#[48]⟩ := ba_ext (by rw [hne])
     rw [show nat10 (body (⟨#[48]⟩ : ByteArray).data.toList) = 0 from rfl, digs_zero]
     clear hb a1 a2 a3 a4 hs hne hneg hhd h45 c1 h0
     go_enter Tryz.func124, Tryz.ntmps124
     go_wp2
     refine wp_loop_rounds 1 ?_
     rw [rounds_succ]
     go_wp2
     go_ret2
     exact ⟨_, rfl, .inl ⟨rfl, rfl⟩, From.nil _, Below.refl _ _⟩
   · have hdt := digs_text hs hne
     have c2 : (!s.toList == [48]) = true := by rw [ba_toList]; simp [hne]
     rw [hb] at a2 a3 hdt ⊢
     rw [ba_len] at a2
     have Hdt := Lib.hid hdt; clear hdt
     have Ha3 := Lib.hid a3; clear a3
     clear hb hneg hne a1 a4 hhd h45 hs
     go_enter Tryz.func124, Tryz.ntmps124
     go_wp2
     clear c1
     go_loopw [5, 6] (fun out i wr => ∃ j : Nat, j ≤ s.size ∧ i = .int .i64 ((j : Int) - 1) ∧ OwnL encN 3 wr w.heap.size out ((s.data.toList.reverse.take (s.size - j)).map dv) ∧ Below w.heap.size w wr) (fun _ i _ => (intOf i + 1).toNat)
     case atStart => exact ⟨s.size, Nat.le_refl _, rfl, by rw [Nat.sub_self]; exact OwnL.nil _ _, Below.refl _ _⟩
     case round =>
      obtain ⟨j, hj, rfl, hown, hB⟩ := hrel
      cases j with
      | zero =>
        go_wp2
        go_ret2
        refine ⟨_, rfl, ?_, hown.from, hB⟩
        have := hown.rd
        rwa [Nat.sub_zero, List.take_of_length_le (by rw [List.length_reverse, ba_len]; exact Nat.le_refl _), Hdt.out] at this
      | succ m =>
        have hd : 48 ≤ s[m].toNat ∧ s[m].toNat ≤ 57 := (dig_iff _).1 (Ha3.out _ (List.mem_of_getElem? (ba_at s m (by omega))))
        have hsz := hB.size
        have hl : ((s.data.toList.reverse.take (s.size - (m + 1))).map dv).length ≤ s.size := by rw [List.length_map, List.length_take]; omega
        go_wp2_with (at_builtin; refine appN rfl _ _ rfl rfl (hown.alloc _) wr.heap.size 1 _ rfl (cell_new1 _ _ _) (dv s[m]) (by simp only [encN, dv]; congr 1; omega) (by omega) (by simp; omega) ?_; intro v' w1 hown1 hB1)
        go_roundw
        case rel =>
         refine ⟨m, by omega, by go_num, ?_, ((hB.alloc hB.size _).trans hB1)⟩
         have e := refDigits_step s (s.size - (m + 1)) (by omega)
         rw [show s.size - (m + 1) + 1 = s.size - m by omega] at e
         rw [e]
         simpa only [show s.size - 1 - (s.size - (m + 1)) = m by omega] using hown1
        case measure => simp [intOf]
set_option maxRecDepth 100000 in
theorem trimmed_any (l : List Nat) (hd : ∀ d ∈ l, d < 10000) (v : Value) (w : World) (hv : Rd encN w v l) :
 Calls Tryz.prog 159 #[v] w fun e w' => ∃ v', e = .returned v' ∧ Rd encN w' v' (digs 10000 (val 10000 l)) ∧ (∀ B, From B v → From B v') ∧ Below w.heap.size w w' := by
 rw [← trimZ_eq (by decide) l hd]
 obtain ⟨a, cap, rfl, hca, hca2, hcell⟩ := hv.open'
 have Hadr := Lib.hid hv.addr
 have Hc := Lib.hid hcell; clear hcell hv hd
 obtain ⟨n, hn⟩ : ∃ n, l.length = n := ⟨_, rfl⟩
 have Hn := Lib.hid hn
 rw [hn] at hca ⊢
 clear hn
 go_enter Tryz.func159, Tryz.ntmps159
 go_wp2
 go_loopw [0] (fun s wr => ∃ k : Nat, k ≤ n ∧ s = .slice a k cap ∧ trimZ (l.take k) = trimZ l ∧ Below w.heap.size w wr) (fun s _ => match s with | .slice _ k _ => k | _ => 0)
 case atStart => exact ⟨n, Nat.le_refl _, rfl, by rw [List.take_of_length_le (by rw [Hn.out]; exact Nat.le_refl _)], Below.refl _ _⟩
 case round =>
  obtain ⟨k, hk, rfl, ht, hB⟩ := hrel
  have Ht := Lib.hid ht; clear ht
  cases k with
  | zero =>
    go_wp2
    go_ret
    refine ⟨_, rfl, ?_, fun B h => h.len, hB⟩
    rw [← Ht.out, List.take_zero, trimZ_nil]
    have := (Rd.take_of (k := 0) (Nat.zero_le _) (Nat.zero_le _) hca2 Hc.out Hadr.out.1 Hadr.out.2).below hB
    rwa [List.take_zero] at this
  | succ m =>
    have hm : m < l.length := by rw [Hn.out]; omega
    have Hr := Lib.hid (Rd.take_of (k := m + 1) (by omega) (by omega) hca2 Hc.out Hadr.out.1 Hadr.out.2)
    obtain ⟨b, off, rfl, hb, hc1⟩ := Hc.out m hm
    have k1 := (hB.cell (p := ⟨b, off + m, none⟩) hb).trans hc1
    clear hc1
    by_cases h0 : l[m] = 0
    · have c1 : ((l[m] : Int) == 0) = true := by rw [h0]; rfl
      have Ht2 := Lib.hid ((trimZ_zero hm h0).symm.trans Ht.out); clear h0
      go_wp2
      go_roundw
      case rel => exact ⟨m, by omega, rfl, Ht2.out, hB⟩
      case measure => simp
    · have c1 : ((l[m] : Int) == 0) = false := by rw [beq_eq_false_iff_ne]; omega
      have Ht2 := Lib.hid ((trimZ_stop hm h0).symm.trans Ht.out); clear h0
      go_wp2
      go_ret
      refine ⟨_, rfl, ?_, fun B h => h.len, hB⟩
      rw [← Ht2.out]
      exact Hr.out.below hB
theorem libAtoi4 (s : ByteArray) (w : World) (hl : s.size ≤ 18) (h0 : s.data.toList ≠ []) (hd : ∀ c ∈ s.data.toList, dig c = true) :
 Calls Tryz.prog 118 #[.string s] w fun e w' => e = .returned (.tuple #[.int .i64 (nat10 s.data.toList : Int), .nilIface]) ∧ Below w.heap.size w w' := by
 refine (Tryz.strconv_Atoi s _ hl (atoi_digits h0 hd) w).mono ?_
 rintro e w' ⟨rfl, t, rfl⟩
 exact ⟨rfl, Lib.bytesWorld_below w 5 t⟩
theorem appG {w : World} {ops : Array Oper} {rest : List Oper} {o : Oper} {a : Act} {Q : Exit → Act → World → Prop} {B : Nat} {v : Value} {l : List Nat} (hgd : o.guard = none) (s x : Operand)
 (ho : o.op = .call { callee := .builtin .append, args := #[s, x], argTypes := #[142, 142] }) (hs : a.eval s = v) (hown : OwnL encN 3 w B v l) (b : Nat) (c : Nat) (u : Value)
 (hx : a.eval x = .slice (some ⟨b, 0, none⟩) 1 c) (hc : w.cell? ⟨b, 0, none⟩ = some u) (y : Nat) (hu : u = encN y) (hlen : l.length + 1 ≤ 1099511627776) (hB : B ≤ w.heap.size)
 (h : ∀ v' w', OwnL encN 3 w' B v' (l ++ [y]) → Below B w w' → wpList Tryz.prog ops Q rest (a.put o.dst v') w') : wpList Tryz.prog ops Q (o :: rest) a w :=
 wpList_app1 hgd s x 142 ho (.int .i64 0) 8 Tryz.underlying142 infoInt rfl encN_one hs hown ⟨b, 0, none⟩ c u hx hc y hu hlen (by decide) hB h
def ParseRel (tl : List UInt8) (neg : Bool) (w : World) (dv : Value) (wr : World) : Prop :=
 ∃ (k : Nat) (d : ByteArray) (L : List Nat) (v : Value), dv = .string d ∧ d.data.toList = tl.take k ∧ k ≤ tl.length ∧ Blk wr w.heap.size #[.bool false, .slice none 0 0] 144 ∧ Blk wr (w.heap.size + 1) #[.bool neg, v] 144 ∧ OwnL encN 3 wr (w.heap.size + 2) v L ∧ Below w.heap.size w wr ∧
  L.length + k ≤ tl.length + 4 ∧ (∀ z ∈ L, z < 10000) ∧ val 10000 L + 10000 ^ L.length * nat10 (tl.take k) = nat10 tl
set_option maxRecDepth 100000 in
theorem parse_any (s : ByteArray) (w : World) (hs : vS s = true) :
 Calls Tryz.prog 153 #[.string s] w fun e w' => ∃ v, e = .returned (.agg #[.bool (negB s.data.toList), v]) ∧ Rd encN w' v (digs 10000 (nS s).natAbs) ∧ From w.heap.size v ∧ Below w.heap.size w w' := by
 rw [show (nS s).natAbs = nat10 (body s.data.toList) from toI_abs _]
 obtain ⟨a1, a2, a3, a4⟩ := vld_parts hs
 have hsz := vS_size hs
 have hneg : ∀ t : ByteArray, t.data.toList = body s.data.toList → decide (t.size < s.size) = negB s.data.toList := by
  intro t ht
  rw [← ba_len t, ← ba_len s, ht]
  unfold negB body
  by_cases hh : s.data.toList.head? = some 45
  · rw [if_pos hh, List.length_tail, decide_eq_decide]
    have : s.data.toList.length ≠ 0 := by intro e; rw [List.eq_nil_of_length_eq_zero e] at hh; simp at hh
    simp only [hh, iff_true]; omega
  · rw [if_neg hh, decide_eq_decide]
    simp [hh]
 have Hneg := Lib.hid hneg
 have Ha3 := Lib.hid a3
 obtain ⟨neg, en⟩ : ∃ b, negB s.data.toList = b := ⟨_, rfl⟩
 obtain ⟨tl, etl⟩ : ∃ b, body s.data.toList = b := ⟨_, rfl⟩
 rw [en] at Hneg ⊢
 rw [etl] at a2 Ha3 Hneg ⊢
 have Hp := Lib.hid (libTrimPrefix s)
 rw [etl] at Hp
 clear hneg a1 a3 a4 hs en etl
 go_enter Tryz.func153, Tryz.ntmps153
 go_wp2_with (go_at_call 156; refine (Hp.out _).mono ?_; rintro e w1 ⟨t, rfl, ht, rfl⟩; have hn2 := Hneg.out t ht; rw [← ht, ba_len] at a2; have Ht := Lib.hid ht; clear ht)
 go_loopw [3] (fun dv wr => ParseRel tl neg w dv wr) (fun dv _ => match dv with | .string d => d.size | _ => 0)
 case atStart =>
  have h1 := Blk.new w #[.bool false, .slice none 0 0] 144
  have h2 := Blk.new (w.alloc (.cells #[.bool false, .slice none 0 0] 144)) #[.bool neg, .slice none 0 0] 144
  rw [World.size_alloc] at h2
  exact ⟨tl.length, t, [], .slice none 0 0, rfl, by rw [Ht.out, List.take_length], Nat.le_refl _, h1.alloc _, h2, OwnL.nil _ _, ((Below.refl _ w).alloc (Nat.le_refl _) _).alloc (by simp) _, by simp, by simp, by simp [val, List.take_length]⟩
 case round =>
  obtain ⟨k, d, L, v, rfl, hd, hk, hR, hX, hown, hB, hlen, hdig, hval⟩ := hrel
  have hdk : d.size = k := by rw [← ba_len, hd, List.length_take]; omega
  have htl : tl.length ≤ 200 := by rw [← Ht.out, ba_len]; exact a2
  have Hd := Lib.hid hd; clear hd
  have Hdig := Lib.hid hdig; clear hdig
  have Hval := Lib.hid hval; clear hval
  have x0 : wr.cell? ⟨w.heap.size + 1, 0, none⟩ = some (.bool neg) := hX.cell rfl
  have x1 : wr.cell? ⟨w.heap.size + 1, 1, none⟩ = some v := hX.cell rfl
  have f0 := hX.free 0
  have f1 := hX.free 1
  have r0 : wr.cell? ⟨w.heap.size, 0, none⟩ = some (.bool false) := hR.cell rfl
  have r1 : wr.cell? ⟨w.heap.size, 1, none⟩ = some (.slice none 0 0) := hR.cell rfl
  have fr0 := hR.free 0
  have fr1 := hR.free 1
  have hbs := hB.size
  have hxl := hX.lt
  by_cases hk0 : k = 0
  · subst hk0
    have Hfin : Hid (digs 10000 (val 10000 L) = digs 10000 (nat10 tl)) := by
     show digs 10000 (val 10000 L) = digs 10000 (nat10 tl)
     rw [← Hval.out, List.take_zero]; simp [nat10, val]
    go_wp2_with (go_at_call 159; refine (trimmed_any L Hdig.out _ _ hown.rd).mono ?_; rw [Hfin.out]; rintro e w1 ⟨v1, rfl, hr1, hf1, hb1⟩; obtain ⟨ad, cp, rfl, _⟩ := hr1.open'; have X1 := hX.below hb1 hxl; have R1 := hR.below hb1 (by omega); have y0 : w1.cell? ⟨w.heap.size + 1, 0, none⟩ = some (.bool neg) := X1.cell rfl; have y1 : w1.cell? ⟨w.heap.size + 1, 1, none⟩ = some v := X1.cell rfl; have g1 := X1.free 1; have q0 : w1.cell? ⟨w.heap.size, 0, none⟩ = some (.bool false) := R1.cell rfl; have q1 : w1.cell? ⟨w.heap.size, 1, none⟩ = some (.slice none 0 0) := R1.cell rfl; have h0 := R1.free 0; have h1 := R1.free 1)
    refine bodyPost_ret (v := .agg #[.bool neg, .slice ad (digs 10000 (nat10 tl)).length cp]) (by simp [results, Tryz.results153, go_sem, q0, q1, h0, h1]) rfl ?_
    have hfr := hf1 _ hown.from
    refine ⟨_, rfl, ?_, hfr.mono (by omega), ?_⟩
    · exact ((hr1.setCell hfr (by simp) _).setCell hfr (by simp) _).setCell hfr (by simp) _
    · exact (((hB.trans (hb1.mono hbs)).setCell (by simp) _).setCell (by simp) _).setCell (by simp) _
  · have hd0 : 0 < d.size := by omega
    obtain ⟨f, hf⟩ : ∃ f, k - 4 = f := ⟨_, rfl⟩
    have hm : max (0 : Int) ((k : Int) - 4) = (f : Int) := by omega
    have hfk : f ≤ k := by omega
    have hchunk : (d.extract f d.size).data.toList = (tl.take k).drop (k - 4) := by rw [Lib.extract_to_end, Hd.out, hf]
    have hc1 : (d.extract f d.size).size ≤ 18 := by rw [← ba_len, hchunk, List.length_drop, List.length_take]; omega
    have hc2 : (d.extract f d.size).data.toList ≠ [] := by
     intro e; have := congrArg List.length e; rw [hchunk, List.length_drop, List.length_take] at this; simp at this; omega
    have hc3 : ∀ c ∈ (d.extract f d.size).data.toList, dig c = true := by
     rw [hchunk]; intro c hc; exact Ha3.out c (List.mem_of_mem_take (List.mem_of_mem_drop hc))
    have hlt := group_lt hk Ha3.out
    have hst := group_step hk Hval.out
    have hrest : (d.extract 0 f).data.toList = tl.take f := by
     rw [ByteArray.data_extract]; simp; rw [Hd.out, List.take_take]; congr 1; omega
    rw [hf] at hst
    obtain ⟨g, hg⟩ : ∃ g, nat10 ((tl.take k).drop (k - 4)) = g := ⟨_, rfl⟩
    rw [hf] at hlt hg hchunk
    rw [hg] at hlt hst
    have hA : ∀ w, Calls Tryz.prog 118 #[.string (d.extract f d.size)] w fun e w' => e = .returned (.tuple #[.int .i64 (g : Int), .nilIface]) ∧ Below w.heap.size w w' := by
     intro w; have := libAtoi4 _ w hc1 hc2 hc3; rwa [hchunk, hg] at this
    obtain ⟨c, hcc⟩ : ∃ c, d.extract f d.size = c := ⟨_, rfl⟩
    obtain ⟨d2, hd2⟩ : ∃ c, d.extract 0 f = c := ⟨_, rfl⟩
    rw [hcc] at hA
    rw [hd2] at hrest
    rw [hdk] at hcc
    have HA := Lib.hid hA
    have Hrest := Lib.hid hrest
    have Hst := Lib.hid hst
    have Hf := Lib.hid hf
    clear hc1 hc2 hc3 hchunk hA hrest hst hg hf
    have hlL : L.length ≤ 300 := by omega
    go_wp2_with (first
     | (go_at_call 118; refine (HA.out _).mono ?_; rintro e w1 ⟨rfl, hb1⟩; have s1 := hb1.size; have y1 : w1.cell? ⟨w.heap.size + 1, 1, none⟩ = some v := (hb1.cell (p := ⟨w.heap.size + 1, 1, none⟩) hxl).trans x1)
     | (at_builtin; refine appG rfl _ _ rfl rfl ((hown.belowTo hb1).alloc _) w1.heap.size 1 _ rfl (cell_new1 _ _ _) g rfl (by omega) (by simp; omega) ?_; intro v' w2 hown2 hB2; obtain ⟨gb, cap, rfl, hgb1, hgb2⟩ := hown2.some_of; have z1 : w2.cell? ⟨w.heap.size + 1, 1, none⟩ = some v := (((hX.below hb1 hxl).alloc _).below hB2 (by omega)).cell rfl; have zf := (((hX.below hb1 hxl).alloc (.cells #[.int .i64 (g : Int)] 3)).below hB2 (by omega)).free 1))
    go_roundw
    case rel =>
     refine ⟨f, d2, _, _, rfl, Hrest.out, by omega, ?_, ?_, hown2.setOther (by simp) _, ?_, by simp; omega, ?_, Hst.out⟩
     · exact (((hR.below hb1 (by omega)).alloc _).below hB2 (by omega)).setOther (by simp) _
     · exact (((hX.below hb1 hxl).alloc _).below hB2 (by omega)).set 1 _
     · exact ((hB.trans (hb1.mono hbs)).alloc (Nat.le_trans hbs s1) _ |>.trans (hB2.mono (by omega))).setCell (by simp) _
     · intro z hz
       rcases List.mem_append.1 hz with h | h
       · exact Hdig.out z h
       · simp at h; omega
    case measure =>
     have e1 : d2.size = f := by rw [← ba_len, Hrest.out, List.length_take]; omega
     simp only [e1, hdk]
     have := Hf.out
     omega
attribute [local go_sem] Oper.semAt_some
theorem cmpCompare_any (x y : Int) (w : World) : Calls Tryz.prog 158 #[.int .i64 x, .int .i64 y] w fun e w' => e = .returned (.int .i64 (cmpI x y)) ∧ w = w' := by
 refine (Tryz.cmp_Compare_int x y w).mono ?_
 rintro e w' ⟨rfl, rfl⟩
 exact ⟨rfl, rfl⟩
set_option maxRecDepth 100000 in
set_option maxHeartbeats 2000000 in
theorem compare_same (x y : Nat) (aa ab : Option Addr) (ca cb : Nat) (w : World) (ha : Rd encN w (.slice aa (digs 10000 x).length ca) (digs 10000 x)) (hb : Rd encN w (.slice ab (digs 10000 y).length cb) (digs 10000 y)) (hlen : (digs 10000 x).length = (digs 10000 y).length) (hx : (digs 10000 x).length ≤ 1000) :
 Calls Tryz.prog 132 #[.slice aa (digs 10000 x).length ca, .slice ab (digs 10000 y).length cb] w fun e w' => e = .returned (.int .i64 (cmpN x y)) ∧ Below w.heap.size w w' := by
 have hsa := hb.addr
 obtain ⟨n, hn⟩ : ∃ n, (digs 10000 x).length = n := ⟨_, rfl⟩
 have Hn := Lib.hid hn
 have Hm := Lib.hid (hlen.symm.trans hn)
 have Ha := Lib.hid ha
 have Hb := Lib.hid hb
 rw [← hlen]
 rw [hn] at hx ⊢
 have hc : ((n : Int) != n) = false := by simp
 clear hlen hn ha hb hsa
 refine (callsIn_wide (n := 5)).1 ?_
 refine callsIn_of_wp_marks Tryz.func132 rfl trivial ?_ rfl
 simp only [Tryz.ntmps132, List.size_toArray, List.length_cons, List.length_nil, Nat.reduceAdd, Nat.reduceSub, Array.replicate_succ, Array.replicate_zero, List.push_toArray, List.append_toArray, List.nil_append, List.cons_append]
 gi_wp2_with (refine ⟨trivial, ?_⟩; gi_at_call 154; refine (callsIn_wide.2 (backward_any _ _ _ _)).mono ?_; rintro e w' ⟨rfl, rfl⟩)
 have hM0 : Blk (((w.alloc (.cells #[.slice ab n cb] 142)).alloc (.cells #[.int .i64 0] 3)).alloc (.cells #[.slice aa n ca] 142)) w.heap.size #[.slice ab n cb] 142 := ((Blk.new w _ _).alloc _).alloc _
 have hR0 : Blk (((w.alloc (.cells #[.slice ab n cb] 142)).alloc (.cells #[.int .i64 0] 3)).alloc (.cells #[.slice aa n ca] 142)) (w.heap.size + 1) #[.int .i64 0] 3 := (Blk.newAt _ _ _ (by simp)).alloc _
 have hS0 : Blk (((w.alloc (.cells #[.slice ab n cb] 142)).alloc (.cells #[.int .i64 0] 3)).alloc (.cells #[.slice aa n ca] 142)) (w.heap.size + 1 + 1) #[.slice aa n ca] 142 := Blk.newAt _ _ _ (by simp)
 have hB0 : Below w.heap.size w (((w.alloc (.cells #[.slice ab n cb] 142)).alloc (.cells #[.int .i64 0] 3)).alloc (.cells #[.slice aa n ca] 142)) := (((Below.refl _ w).alloc (Nat.le_refl _) _).alloc (by simp) _).alloc (by simp; omega) _
 have hsz : w.heap.size + 1 + 1 + 1 = (((w.alloc (.cells #[.slice ab n cb] 142)).alloc (.cells #[.int .i64 0] 3)).alloc (.cells #[.slice aa n ca] 142)).heap.size := by simp
 generalize (((w.alloc (.cells #[.slice ab n cb] 142)).alloc (.cells #[.int .i64 0] 3)).alloc (.cells #[.slice aa n ca] 142)) = W0 at *
 refine wp_backward (by omega) (w.heap.size + 1 + 1) w.heap.size rfl (.slice aa n ca) (digs 10000 x) (by rw [Hn.out]; omega) hS0.lt (by omega) (hS0.cell rfl) ?rd ?fr rfl
  (fun pre W => ((∀ p ∈ pre, (digs 10000 y)[p.1.1]? = some p.1.2) ∧ Blk W w.heap.size #[.slice ab n cb] 142 ∧ Blk W (w.heap.size + 1) #[.int .i64 0] 3) ∧ Below w.heap.size w W)
  (fun c pre W => (c = .ret ∧ ∃ (ini : List (Place (digs 10000 x))) (last : Place (digs 10000 x)) (d : Nat), pre = ini ++ [last] ∧ (∀ p ∈ ini, (digs 10000 y)[p.1.1]? = some p.1.2) ∧ (digs 10000 y)[last.1.1]? = some d ∧ last.1.2 ≠ d ∧ Blk W (w.heap.size + 1) #[.int .i64 (cmpI (last.1.2 : Int) (d : Int))] 3) ∧ Below w.heap.size w W)
  ?own ?ownx ?start (fun p t => (((t.setIfInBounds 19 (.int .i64 (p.1.1 : Int))).setIfInBounds 20 (.int .i64 (p.1.2 : Int))).setIfInBounds 5 (.int .i64 (p.1.1 : Int))).setIfInBounds 6 (.int .i64 (p.1.2 : Int))) ?assign ?body ?done ?stop
 case rd => have := Ha.out.below hB0; rwa [Hn.out] at this
 case fr =>
  intro k hk
  have := Ha.out
  rw [Hn.out] at this
  rcases this with ⟨h, _⟩ | ⟨b, off, cap, h, hb, _⟩
  · cases h; cases hk
  · cases h; cases hk; exact hb
 case own => exact OwnFrom.and (Own.from (fun s A B row hs hg hr => ⟨hs.1, hs.2.1.kept hg hr, hs.2.2.kept hg hr⟩) _) (ownFrom_below (Nat.le_refl _) (by omega))
 case ownx => exact fun c => OwnFrom.and (Own.from (fun s A B row hs hg hr => by obtain ⟨e, ini, last, d, h1, h2, h3, h4, h5⟩ := hs; exact ⟨e, ini, last, d, h1, h2, h3, h4, h5.kept hg hr⟩) _) (ownFrom_below (Nat.le_refl _) (by omega))
 case start => exact ⟨⟨by simp, hM0, hR0⟩, hB0⟩
 case assign =>
  intro l x W K hK
  simp only [List.setIfInBounds_toArray, List.set_cons_succ, List.set_cons_zero] at hK
  gi_wp2
  exact hK
 case body =>
  rintro l pre p W ⟨⟨hpre, hM, hR⟩, hB⟩ _
  simp only [List.setIfInBounds_toArray, List.set_cons_succ, List.set_cons_zero]
  have hin := (List.getElem?_eq_some_iff.1 p.2).1
  rw [Hn.out] at hin
  obtain ⟨bb, ob, rfl, hbb, hc2⟩ : ∃ b off, ab = some ⟨b, off, none⟩ ∧ b < w.heap.size ∧ w.cell? ⟨b, off + p.1.1, none⟩ = some (encN ((digs 10000 y)[p.1.1]'(by rw [Hm.out]; exact hin))) := by
   obtain ⟨a', c', e, _, _, hcell⟩ := Hb.out.open'
   injection e with e1 e2 e3
   subst e1
   exact hcell p.1.1 (by rw [Hm.out]; exact hin)
  obtain ⟨d, hd⟩ : ∃ d, (digs 10000 y)[p.1.1]'(by rw [Hm.out]; exact hin) = d := ⟨_, rfl⟩
  have Hd := Lib.hid (show (digs 10000 y)[p.1.1]? = some d by rw [List.getElem?_eq_getElem (by rw [Hm.out]; exact hin), hd])
  have k2 := (hB.cell (p := ⟨bb, ob + p.1.1, none⟩) hbb).trans hc2
  rw [hd] at k2
  have m0 : W.cell? ⟨w.heap.size, 0, none⟩ = some (.slice (some ⟨bb, ob, none⟩) n cb) := hM.cell rfl
  have r0 : W.cell? ⟨w.heap.size + 1, 0, none⟩ = some (.int .i64 0) := hR.cell rfl
  have rf := hR.free 0
  have Hpre := Lib.hid hpre
  clear hpre hc2 hd
  by_cases hne : p.1.2 = d
  · have c1 : ((p.1.2 : Int) != (d : Int)) = false := by simp [hne]
    gi_wp2
    exact ⟨KeepsFrom.refl _ _, KpB.refl _ _ _, ⟨fun q hq => (List.mem_append.1 hq).elim (Hpre.out q) (fun e => by simp at e; subst e; rw [Hd.out, hne]), hM, hR⟩, hB⟩
  · have c1 : ((p.1.2 : Int) != (d : Int)) = true := by rw [bne_iff_ne]; omega
    gi_wp2_with (refine ⟨trivial, ?_⟩; gi_at_call 158; refine (CallsIn.inRound l (callsIn_wide.2 (cmpCompare_any _ _ _))).mono ?_; rintro e w' ⟨rfl, rfl⟩)
    exact ⟨(KeepsOthers.setCell _ _ _).from _, ⟨rfl, pre, p, d, rfl, Hpre.out, Hd.out, hne, hR.set 0 _⟩, hB.setCell (by simp) _⟩
 case done =>
  rintro D ys W hD hys ⟨⟨hall, hM, hR⟩, hB⟩ hK
  have r0 : W.cell? ⟨w.heap.size + 1, 0, none⟩ = some (.int .i64 0) := hR.cell rfl
  have rf := hR.free 0
  have hxy : x = y := by
   have h5 := bw_drop (l := digs 10000 x) (m := digs 10000 y) (by rw [Hn.out, Hm.out]) (Nat.le_refl _) hys hall
   rw [Nat.sub_self, List.drop_zero, List.drop_zero] at h5
   exact digs_inj (by decide) h5
  have Hxy := Lib.hid hxy
  clear hxy hys hall
  gi_wp2
  have hK' := (KeepsOthers.setCell W ⟨w.heap.size + 1, 0, none⟩ (.int .i64 0)).same D _ hK rfl
  refine ⟨by simp, .inl ⟨_, _, rfl, run_takeDeferred hK', ?_⟩⟩
  have hR2 := (hR.set 0 (.int .i64 0)).kept (grownBy_putObj' _ D (.deferred none)) (fun r e => by cases e; exact ⟨_, hK', rfl⟩)
  have hc5 : ((W.setCell ⟨w.heap.size + 1, 0, none⟩ (.int .i64 0)).putObj D (.deferred none)).cell? ⟨w.heap.size + 1, 0, none⟩ = some (.int .i64 0) := hR2.cell rfl
  refine ⟨.int .i64 0, ?_, ret_i64 (cmpN_eq Hxy.out).symm, (hB.setCell (by simp) _).trans (belowK_b (w := w) (Nat.le_refl _) _ D _ _ (by omega) hK' rfl rfl)⟩
  simp [results, Tryz.f132, go_sem, hc5]
 case stop =>
  rintro D c pre W hD ⟨k, hk, hpre⟩ ⟨⟨rfl, ini, last, d, rfl, hini, hd, hne, hR⟩, hB⟩ hK
  have hcmp : cmpN x y = cmpI (last.1.2 : Int) (d : Int) := by
   obtain ⟨j, rfl, e1, e2⟩ := bw_last hpre
   have h5 := bw_drop (by rw [Hn.out, Hm.out]) (by omega) e1 hini
   have hlx := last.2
   rw [e2] at hlx hd
   have hj1 : (digs 10000 x).length - 1 - j < (digs 10000 x).length := by omega
   have hj2 : (digs 10000 x).length - 1 - j < (digs 10000 y).length := by rw [Hm.out, Hn.out] at *; omega
   have ex := (List.getElem?_eq_some_iff.1 hlx).2
   have ey := (List.getElem?_eq_some_iff.1 hd).2
   have e3 : (digs 10000 x).length - j = (digs 10000 x).length - 1 - j + 1 := by omega
   rw [e3] at h5
   rw [cmp_sgn_pos]
   by_cases hlt : last.1.2 < d
   · rw [cmpN_lt hlt, cmpN_lt (digs_less (by decide) hj1 hj2 h5 (by rw [ex, ey]; exact hlt))]
   · rw [cmpN_gt (show d < last.1.2 by omega), cmpN_gt (digs_less (by decide) hj2 hj1 h5.symm (by rw [ex, ey]; omega))]
  have Hcmp := Lib.hid hcmp
  clear hcmp
  gi_wp2
  refine ⟨by simp, .inl ⟨_, _, rfl, run_takeDeferred hK, ?_⟩⟩
  have hR2 := hR.kept (grownBy_putObj' _ D (.deferred none)) (fun r e => by cases e; exact ⟨_, hK, rfl⟩)
  have hc5 : (W.putObj D (.deferred none)).cell? ⟨w.heap.size + 1, 0, none⟩ = some (.int .i64 (cmpI (last.1.2 : Int) (d : Int))) := hR2.cell rfl
  refine ⟨.int .i64 (cmpI (last.1.2 : Int) (d : Int)), ?_, ret_i64 Hcmp.out.symm, hB.trans (belowK_b (w := w) (Nat.le_refl _) _ D _ _ (by omega) hK rfl rfl)⟩
  simp [results, Tryz.f132, go_sem, hc5]
set_option maxRecDepth 100000 in
theorem compare_any (x y : Nat) (va vb : Value) (w : World) (ha : Rd encN w va (digs 10000 x)) (hb : Rd encN w vb (digs 10000 y)) (hx : (digs 10000 x).length ≤ 1000) :
 Calls Tryz.prog 132 #[va, vb] w fun e w' => e = .returned (.int .i64 (cmpN x y)) ∧ Below w.heap.size w w' := by
 obtain ⟨aa, ca, rfl, _⟩ := ha.open'
 obtain ⟨ab, cb, rfl, _⟩ := hb.open'
 by_cases hlen : (digs 10000 x).length = (digs 10000 y).length
 · exact compare_same x y aa ab ca cb w ha hb hlen hx
 · have hcmp : cmpI ((digs 10000 x).length : Int) ((digs 10000 y).length : Int) = cmpN x y := by
    rw [cmp_sgn_pos]
    by_cases hlt : (digs 10000 x).length < (digs 10000 y).length
    · rw [cmpN_lt hlt, cmpN_lt (digs_len_lt (B := 10000) (by decide) hlt)]
    · have hgt : (digs 10000 y).length < (digs 10000 x).length := by omega
      rw [cmpN_gt hgt, cmpN_gt (digs_len_lt (B := 10000) (by decide) hgt)]
   obtain ⟨n, hn⟩ : ∃ n, (digs 10000 x).length = n := ⟨_, rfl⟩
   obtain ⟨m, hm⟩ : ∃ n, (digs 10000 y).length = n := ⟨_, rfl⟩
   rw [hn, hm] at hcmp hlen ⊢
   have hc : ((n : Int) != m) = true := by rw [bne_iff_ne]; omega
   have Hcmp := Lib.hid hcmp
   clear hn hm hcmp ha hb hlen hx
   go_enter Tryz.func132, Tryz.ntmps132
   go_wp2_with (go_at_call 158; refine (cmpCompare_any _ _ _).mono ?_; rw [Hcmp.out]; rintro e w' ⟨rfl, rfl⟩)
   refine bodyPost_ret (v := .int .i64 (cmpN x y)) (by simp [results, Tryz.results132, go_sem]) rfl ⟨rfl, ?_⟩
   exact ((Below.refl _ w).alloc (Nat.le_refl _) _).alloc (by simp) _
set_option maxRecDepth 100000 in
theorem at_any (l : List Nat) (v : Value) (i : Nat) (w : World) (hv : Rd encN w v l) (hi : i ≤ 1099511627776) :
 Calls Tryz.prog 165 #[v, .int .i64 i] w fun e w' => e = .returned (.int .i64 (l.getD i 0 : Nat)) ∧ w = w' := by
 obtain ⟨a, c, rfl, h1, h2, hc⟩ := hv.open'
 by_cases hl : i < l.length
 · obtain ⟨b, off, rfl, hb, k1⟩ := hc i hl
   have e1 : l.getD i 0 = l[i] := by simp [List.getD, List.getElem?_eq_getElem hl]
   rw [e1]
   obtain ⟨d, hd⟩ : ∃ d, l[i] = d := ⟨_, rfl⟩
   rw [hd] at k1 ⊢
   clear e1 hd hc hv
   go_enter Tryz.func165, Tryz.ntmps165
   go_wp2
   go_ret
   exact ⟨rfl, rfl⟩
 · have e1 : l.getD i 0 = 0 := by simp [List.getD, List.getElem?_eq_none (show l.length ≤ i by omega)]
   rw [e1]
   clear e1 hc hv
   go_enter Tryz.func165, Tryz.ntmps165
   go_wp2
   go_ret
   exact ⟨rfl, rfl⟩
def FoldRel (n : Nat) (d : Nat → Int) (w : World) (carry out i : Value) (wr : World) : Prop :=
 ∃ (k : Nat) (c : Int) (l : List Nat), i = .int .i64 k ∧ carry = .int .i64 c ∧ OwnL encN 3 wr w.heap.size out l ∧ Below w.heap.size w wr ∧ l.length = k ∧ (∀ z ∈ l, z < 10000) ∧ -1 ≤ c ∧ c ≤ 9999 ∧
  (val 10000 l : Int) + ((10000 ^ k : Nat) : Int) * c = digSum 10000 d k ∧ (k ≤ n ∨ (c = 0 ∧ k ≤ n + 1))
theorem foldRel_step {n k r : Nat} {d : Nat → Int} {w w1 : World} {c c' : Int} {l : List Nat} {out i' cv : Value}
 (hl : l.length = k) (hd : ∀ z ∈ l, z < 10000) (hv : (val 10000 l : Int) + ((10000 ^ k : Nat) : Int) * c = digSum 10000 d k) (h1 : d k + c = (r : Int) + 10000 * c') (hr : r < 10000) (hc1 : -1 ≤ c') (hc2 : c' ≤ 9999)
 (hin : k < n ∨ c ≠ 0) (hz : ∀ i, n ≤ i → d i = 0) (hb1 : -1 ≤ c) (hb2 : c ≤ 9999) (hS : 0 ≤ digSum 10000 d n) (hkn : k ≤ n ∨ (c = 0 ∧ k ≤ n + 1))
 (hown : OwnL encN 3 w1 w.heap.size out (l ++ [r])) (hB : Below w.heap.size w w1) (hi : i' = .int .i64 ((k + 1 : Nat) : Int)) (hcv : cv = .int .i64 c') : FoldRel n d w cv out i' w1 := by
 refine ⟨k + 1, c', _, hi, hcv, hown, hB, by simp [hl], ?_, hc1, hc2, fold_step hv hl h1, ?_⟩
 · intro z hm
   rcases List.mem_append.1 hm with h | h
   · exact hd z h
   · simp at h; omega
 · by_cases hk : k < n
   · exact .inl hk
   · have hc0 : c ≠ 0 := hin.resolve_left hk
     rcases hkn with h | h
     · have hkn : k = n := by omega
       subst hkn
       have hd0 := hz k (Nat.le_refl _)
       rw [hd0] at h1
       have hcm : c ≠ -1 := by
        intro e; subst e
        exact fold_no_borrow hv hl hd hS
       exact .inr ⟨by omega, Nat.le_refl _⟩
     · exact absurd h.1 hc0
set_option maxRecDepth 100000 in
set_option maxHeartbeats 2000000 in
theorem fold_any (gf : Nat) (p1 p2 : Value) (eg : ∀ args w, (callFunc gf args).run Tryz.prog w = .ok (.enter gf args) w) (n : Nat) (d : Nat → Int) (w : World) (hn : n ≤ 1000) (hd : ∀ i, -9999 ≤ d i ∧ d i ≤ 99980001) (hz : ∀ i, n ≤ i → d i = 0) (hS : 0 ≤ digSum 10000 d n)
 (hg : ∀ (i : Nat) W, i ≤ n + 1 → Below w.heap.size w W → Calls Tryz.prog gf #[.int .i64 i, p1, p2] W fun e W' => e = .returned (.int .i64 (d i)) ∧ Below W.heap.size W W') :
 Calls Tryz.prog 163 #[.int .i64 n, .int .i64 0, .func (.func gf) #[] #[p1, p2]] w fun e w' => ∃ v, e = .returned v ∧ ∃ l, Rd encN w' v l ∧ From w.heap.size v ∧ (∀ z ∈ l, z < 10000) ∧ (val 10000 l : Int) = digSum 10000 d n ∧ Below w.heap.size w w' := by
 have Hg := Lib.hid hg
 have Hd := Lib.hid hd
 have Hz := Lib.hid hz
 have HS := Lib.hid hS
 clear hg hd hz hS
 obtain ⟨i0, hi, hz0, hz1, hz2⟩ := info_parts infoInt
 go_enter Tryz.func163, Tryz.ntmps163
 go_wp2_with (at_make; refine wpList_make_own _ rfl _ _ 142 rfl w.heap.size 3 i0 (.int .i64 0) 1 Tryz.underlying142 hi hz0 hz1 .i64 .i64 _ (n + 1) rfl rfl (by omega) (by rw [hz2]; omega) (by simp only [maxLen]; omega) (Nat.le_refl _) ?_; intro w1 hown1 hgrow1)
 have hB1 : Below w.heap.size w w1 := (Below.refl _ w).grown hgrow1 (Nat.le_refl _) (fun k hk => by cases hk)
 go_loopw [1, 7, 8] (fun carry out i wr => FoldRel n d w carry out i wr) (fun _ _ i _ => (n + 2 - intOf i).toNat)
 case atStart => exact ⟨0, 0, [], rfl, rfl, hown1, hB1, rfl, by simp, by omega, by omega, by simp [val, digSum], .inl (Nat.zero_le _)⟩
 case round =>
  obtain ⟨k, c, l, rfl, rfl, hown, hB, hl, hdg, hc1, hc2, hv, hkn⟩ := hrel
  have Hl := Lib.hid hl; clear hl
  have Hdg := Lib.hid hdg; clear hdg
  have Hv := Lib.hid hv; clear hv
  clear hown1 hgrow1 hB1
  have hbs := hB.size
  by_cases hin : k < n ∨ c ≠ 0
  · have hdk := Hd.out k
    have hlen : l.length ≤ n + 2 := by rw [Hl.out]; omega
    by_cases hkn0 : k < n
    · have hin : k < n ∨ c ≠ 0 := .inl hkn0
      by_cases hneg : d k + c < 0
      ·
       obtain ⟨r, er⟩ : ∃ r : Nat, (d k + c + 10000).toNat = r := ⟨_, rfl⟩
       obtain ⟨q, eq⟩ : ∃ q : Int, (-1) = q := ⟨_, rfl⟩
       have hE := Lib.hid (show d k + c = (r : Int) + 10000 * q by omega)
       have hr1 : r < 10000 := by omega
       have hq1 : q ≤ -1 ∧ -1 ≤ q := by omega
       have Hq := Lib.hid (show -1 ≤ q ∧ q ≤ 9999 by omega)
       obtain ⟨e, he⟩ : ∃ e, d k = e := ⟨_, rfl⟩
       have hgk := fun h1 h2 => Hg.out k wr h1 h2
       rw [he] at hgk hdk
       have he1 : e + c ≤ (r : Int) + 10000 * q := by have := hE.out; omega
       have he2 : (r : Int) + 10000 * q ≤ e + c := by have := hE.out; omega
       have Hgk := Lib.hid hgk
       have Hin := Lib.hid hin
       clear hgk he hin er eq hneg
       go_wp2_with (first | ((with_reducible refine (Hgk.out (by omega) hB).mono ?_); rintro _ w2 ⟨rfl, hb2⟩; have hs2 := hb2.size) | (at_builtin; refine appG rfl _ _ rfl rfl ((hown.belowTo hb2).alloc _) w2.heap.size 1 _ rfl (cell_new1 _ _ _) r (int_eq (by omega)) (by omega) (by simp; omega) ?_; intro v' w3 hown3 hB3))
       go_roundw
       case rel => exact foldRel_step Hl.out Hdg.out Hv.out hE.out hr1 Hq.out.1 Hq.out.2 Hin.out Hz.out hc1 hc2 HS.out hkn hown3 (((hB.trans (hb2.mono hB.size)).alloc (by omega) _).trans hB3) (int_eq (by omega)) (int_eq (by omega))
       case measure => simp [intOf]; omega
      · by_cases hbig : 10000 ≤ d k + c
        ·
         obtain ⟨r, er⟩ : ∃ r : Nat, ((d k + c) % 10000).toNat = r := ⟨_, rfl⟩
         obtain ⟨q, eq⟩ : ∃ q : Int, ((d k + c) / 10000) = q := ⟨_, rfl⟩
         have hE := Lib.hid (show d k + c = (r : Int) + 10000 * q by omega)
         have hr1 : r < 10000 := by omega
         have hq1 : 1 ≤ q := by omega
         have Hq := Lib.hid (show -1 ≤ q ∧ q ≤ 9999 by omega)
         obtain ⟨e, he⟩ : ∃ e, d k = e := ⟨_, rfl⟩
         have hgk := fun h1 h2 => Hg.out k wr h1 h2
         rw [he] at hgk hdk
         have he1 : e + c ≤ (r : Int) + 10000 * q := by have := hE.out; omega
         have he2 : (r : Int) + 10000 * q ≤ e + c := by have := hE.out; omega
         have Hgk := Lib.hid hgk
         have Hin := Lib.hid hin
         clear hgk he hin er eq hneg hbig
         go_wp2_with (first | ((with_reducible refine (Hgk.out (by omega) hB).mono ?_); rintro _ w2 ⟨rfl, hb2⟩; have hs2 := hb2.size) | (at_builtin; refine appG rfl _ _ rfl rfl ((hown.belowTo hb2).alloc _) w2.heap.size 1 _ rfl (cell_new1 _ _ _) r (int_eq (by omega)) (by omega) (by simp; omega) ?_; intro v' w3 hown3 hB3))
         go_roundw
         case rel => exact foldRel_step Hl.out Hdg.out Hv.out hE.out hr1 Hq.out.1 Hq.out.2 Hin.out Hz.out hc1 hc2 HS.out hkn hown3 (((hB.trans (hb2.mono hB.size)).alloc (by omega) _).trans hB3) (int_eq (by omega)) (int_eq (by omega))
         case measure => simp [intOf]; omega
        ·
         obtain ⟨r, er⟩ : ∃ r : Nat, (d k + c).toNat = r := ⟨_, rfl⟩
         obtain ⟨q, eq⟩ : ∃ q : Int, (0 : Int) = q := ⟨_, rfl⟩
         have hE := Lib.hid (show d k + c = (r : Int) + 10000 * q by omega)
         have hr1 : r < 10000 := by omega
         have hq1 : q ≤ 0 ∧ 0 ≤ q := by omega
         have Hq := Lib.hid (show -1 ≤ q ∧ q ≤ 9999 by omega)
         obtain ⟨e, he⟩ : ∃ e, d k = e := ⟨_, rfl⟩
         have hgk := fun h1 h2 => Hg.out k wr h1 h2
         rw [he] at hgk hdk
         have he1 : e + c ≤ (r : Int) + 10000 * q := by have := hE.out; omega
         have he2 : (r : Int) + 10000 * q ≤ e + c := by have := hE.out; omega
         have Hgk := Lib.hid hgk
         have Hin := Lib.hid hin
         clear hgk he hin er eq hneg hbig
         go_wp2_with (first | ((with_reducible refine (Hgk.out (by omega) hB).mono ?_); rintro _ w2 ⟨rfl, hb2⟩; have hs2 := hb2.size) | (at_builtin; refine appG rfl _ _ rfl rfl ((hown.belowTo hb2).alloc _) w2.heap.size 1 _ rfl (cell_new1 _ _ _) r (int_eq (by omega)) (by omega) (by simp; omega) ?_; intro v' w3 hown3 hB3))
         go_roundw
         case rel => exact foldRel_step Hl.out Hdg.out Hv.out hE.out hr1 Hq.out.1 Hq.out.2 Hin.out Hz.out hc1 hc2 HS.out hkn hown3 (((hB.trans (hb2.mono hB.size)).alloc (by omega) _).trans hB3) (int_eq (by omega)) (int_eq (by omega))
         case measure => simp [intOf]; omega
    · have hin : k < n ∨ c ≠ 0 := hin
      have hc0 : ((c : Int) != 0) = true := by rw [bne_iff_ne]; omega
      by_cases hneg : d k + c < 0
      ·
       obtain ⟨r, er⟩ : ∃ r : Nat, (d k + c + 10000).toNat = r := ⟨_, rfl⟩
       obtain ⟨q, eq⟩ : ∃ q : Int, (-1) = q := ⟨_, rfl⟩
       have hE := Lib.hid (show d k + c = (r : Int) + 10000 * q by omega)
       have hr1 : r < 10000 := by omega
       have hq1 : q ≤ -1 ∧ -1 ≤ q := by omega
       have Hq := Lib.hid (show -1 ≤ q ∧ q ≤ 9999 by omega)
       obtain ⟨e, he⟩ : ∃ e, d k = e := ⟨_, rfl⟩
       have hgk := fun h1 h2 => Hg.out k wr h1 h2
       rw [he] at hgk hdk
       have he1 : e + c ≤ (r : Int) + 10000 * q := by have := hE.out; omega
       have he2 : (r : Int) + 10000 * q ≤ e + c := by have := hE.out; omega
       have Hgk := Lib.hid hgk
       have Hin := Lib.hid hin
       clear hgk he hin er eq hneg
       go_wp2_with (first | ((with_reducible refine (Hgk.out (by omega) hB).mono ?_); rintro _ w2 ⟨rfl, hb2⟩; have hs2 := hb2.size) | (at_builtin; refine appG rfl _ _ rfl rfl ((hown.belowTo hb2).alloc _) w2.heap.size 1 _ rfl (cell_new1 _ _ _) r (int_eq (by omega)) (by omega) (by simp; omega) ?_; intro v' w3 hown3 hB3))
       go_roundw
       case rel => exact foldRel_step Hl.out Hdg.out Hv.out hE.out hr1 Hq.out.1 Hq.out.2 Hin.out Hz.out hc1 hc2 HS.out hkn hown3 (((hB.trans (hb2.mono hB.size)).alloc (by omega) _).trans hB3) (int_eq (by omega)) (int_eq (by omega))
       case measure => simp [intOf]; omega
      · by_cases hbig : 10000 ≤ d k + c
        ·
         obtain ⟨r, er⟩ : ∃ r : Nat, ((d k + c) % 10000).toNat = r := ⟨_, rfl⟩
         obtain ⟨q, eq⟩ : ∃ q : Int, ((d k + c) / 10000) = q := ⟨_, rfl⟩
         have hE := Lib.hid (show d k + c = (r : Int) + 10000 * q by omega)
         have hr1 : r < 10000 := by omega
         have hq1 : 1 ≤ q := by omega
         have Hq := Lib.hid (show -1 ≤ q ∧ q ≤ 9999 by omega)
         obtain ⟨e, he⟩ : ∃ e, d k = e := ⟨_, rfl⟩
         have hgk := fun h1 h2 => Hg.out k wr h1 h2
         rw [he] at hgk hdk
         have he1 : e + c ≤ (r : Int) + 10000 * q := by have := hE.out; omega
         have he2 : (r : Int) + 10000 * q ≤ e + c := by have := hE.out; omega
         have Hgk := Lib.hid hgk
         have Hin := Lib.hid hin
         clear hgk he hin er eq hneg hbig
         go_wp2_with (first | ((with_reducible refine (Hgk.out (by omega) hB).mono ?_); rintro _ w2 ⟨rfl, hb2⟩; have hs2 := hb2.size) | (at_builtin; refine appG rfl _ _ rfl rfl ((hown.belowTo hb2).alloc _) w2.heap.size 1 _ rfl (cell_new1 _ _ _) r (int_eq (by omega)) (by omega) (by simp; omega) ?_; intro v' w3 hown3 hB3))
         go_roundw
         case rel => exact foldRel_step Hl.out Hdg.out Hv.out hE.out hr1 Hq.out.1 Hq.out.2 Hin.out Hz.out hc1 hc2 HS.out hkn hown3 (((hB.trans (hb2.mono hB.size)).alloc (by omega) _).trans hB3) (int_eq (by omega)) (int_eq (by omega))
         case measure => simp [intOf]; omega
        ·
         obtain ⟨r, er⟩ : ∃ r : Nat, (d k + c).toNat = r := ⟨_, rfl⟩
         obtain ⟨q, eq⟩ : ∃ q : Int, (0 : Int) = q := ⟨_, rfl⟩
         have hE := Lib.hid (show d k + c = (r : Int) + 10000 * q by omega)
         have hr1 : r < 10000 := by omega
         have hq1 : q ≤ 0 ∧ 0 ≤ q := by omega
         have Hq := Lib.hid (show -1 ≤ q ∧ q ≤ 9999 by omega)
         obtain ⟨e, he⟩ : ∃ e, d k = e := ⟨_, rfl⟩
         have hgk := fun h1 h2 => Hg.out k wr h1 h2
         rw [he] at hgk hdk
         have he1 : e + c ≤ (r : Int) + 10000 * q := by have := hE.out; omega
         have he2 : (r : Int) + 10000 * q ≤ e + c := by have := hE.out; omega
         have Hgk := Lib.hid hgk
         have Hin := Lib.hid hin
         clear hgk he hin er eq hneg hbig
         go_wp2_with (first | ((with_reducible refine (Hgk.out (by omega) hB).mono ?_); rintro _ w2 ⟨rfl, hb2⟩; have hs2 := hb2.size) | (at_builtin; refine appG rfl _ _ rfl rfl ((hown.belowTo hb2).alloc _) w2.heap.size 1 _ rfl (cell_new1 _ _ _) r (int_eq (by omega)) (by omega) (by simp; omega) ?_; intro v' w3 hown3 hB3))
         go_roundw
         case rel => exact foldRel_step Hl.out Hdg.out Hv.out hE.out hr1 Hq.out.1 Hq.out.2 Hin.out Hz.out hc1 hc2 HS.out hkn hown3 (((hB.trans (hb2.mono hB.size)).alloc (by omega) _).trans hB3) (int_eq (by omega)) (int_eq (by omega))
         case measure => simp [intOf]; omega
  · have h1 : ¬ k < n := fun h => hin (.inl h)
    obtain rfl : c = 0 := by omega
    go_wp2
    go_ret
    refine ⟨_, rfl, l, hown.rd, hown.from, Hdg.out, ?_, hB⟩
    rw [fold_end Hv.out]
    exact digSum_zero_from Hz.out k (by omega)
theorem at_same (l : List Nat) (v : Value) (i : Nat) (w : World) (hv : Rd encN w v l) (hi : i ≤ 1099511627776) :
 Calls Tryz.prog 165 #[v, .int .i64 i] w fun e w' => e = .returned (.int .i64 (l.getD i 0 : Nat)) ∧ w' = w :=
 (at_any l v i w hv hi).mono fun _ _ h => ⟨h.1, h.2.symm⟩
set_option maxRecDepth 100000 in
theorem plus1_any (l m : List Nat) (va vb : Value) (i : Nat) (a b : Addr) (w : World) (ha : w.cell? a = some va) (hb : w.cell? b = some vb) (hva : Rd encN w va l) (hvb : Rd encN w vb m) (hi : i ≤ 1099511627776) (hl : ∀ z ∈ l, z < 10000) (hm : ∀ z ∈ m, z < 10000) :
 Calls Tryz.prog 164 #[.int .i64 i, .pointer (some a), .pointer (some b)] w fun e w' => e = .returned (.int .i64 ((l.getD i 0 : Nat) + (m.getD i 0 : Nat) : Int)) ∧ Below w.heap.size w w' := by
 have Ha := Lib.hid (fun q => at_same l va i (w.drewN q) (hva.below ((Below.refl _ w).drewN q)) hi)
 have Hb := Lib.hid (fun q => at_same m vb i (w.drewN q) (hvb.below ((Below.refl _ w).drewN q)) hi)
 obtain ⟨aa, ca, rfl, _⟩ := hva.open'
 obtain ⟨ab, cb, rfl, _⟩ := hvb.open'
 have h1 : l.getD i 0 < 10000 := by
  by_cases h : i < l.length
  · rw [List.getD, List.getElem?_eq_getElem h]; exact hl _ (List.getElem_mem h)
  · rw [List.getD, List.getElem?_eq_none (by omega)]; decide
 have h2 : m.getD i 0 < 10000 := by
  by_cases h : i < m.length
  · rw [List.getD, List.getElem?_eq_getElem h]; exact hm _ (List.getElem_mem h)
  · rw [List.getD, List.getElem?_eq_none (by omega)]; decide
 obtain ⟨x, hx⟩ : ∃ x, l.getD i 0 = x := ⟨_, rfl⟩
 obtain ⟨y, hy⟩ : ∃ x, m.getD i 0 = x := ⟨_, rfl⟩
 rw [hx] at h1 Ha ⊢
 rw [hy] at h2 Hb ⊢
 clear hx hy hl hm hva hvb
 have hw1 : IntKind.i64.wrap ((x : Int) + (y : Int)) = (x : Int) + y := IntWalk.i64_in _ (by omega)
 go_enter Tryz.func164, Tryz.ntmps164
 go_wp2_with fail
 go_quiet ((first | (go_at_call 165; with_reducible exact Calls.quiet_of_same (Ha.out _)) | (go_at_call 165; with_reducible exact Calls.quiet_of_same (Hb.out _))))
 go_wp2
 go_ret
 exact ⟨rfl, (Below.refl _ _).drewN _⟩
set_option maxRecDepth 100000 in
theorem minus1_any (l m : List Nat) (va vb : Value) (i : Nat) (a b : Addr) (w : World) (ha : w.cell? a = some va) (hb : w.cell? b = some vb) (hva : Rd encN w va l) (hvb : Rd encN w vb m) (hi : i ≤ 1099511627776) (hl : ∀ z ∈ l, z < 10000) (hm : ∀ z ∈ m, z < 10000) :
 Calls Tryz.prog 166 #[.int .i64 i, .pointer (some a), .pointer (some b)] w fun e w' => e = .returned (.int .i64 ((l.getD i 0 : Nat) - (m.getD i 0 : Nat) : Int)) ∧ Below w.heap.size w w' := by
 have Ha := Lib.hid (fun q => at_same l va i (w.drewN q) (hva.below ((Below.refl _ w).drewN q)) hi)
 have Hb := Lib.hid (fun q => at_same m vb i (w.drewN q) (hvb.below ((Below.refl _ w).drewN q)) hi)
 obtain ⟨aa, ca, rfl, _⟩ := hva.open'
 obtain ⟨ab, cb, rfl, _⟩ := hvb.open'
 have h1 : l.getD i 0 < 10000 := by
  by_cases h : i < l.length
  · rw [List.getD, List.getElem?_eq_getElem h]; exact hl _ (List.getElem_mem h)
  · rw [List.getD, List.getElem?_eq_none (by omega)]; decide
 have h2 : m.getD i 0 < 10000 := by
  by_cases h : i < m.length
  · rw [List.getD, List.getElem?_eq_getElem h]; exact hm _ (List.getElem_mem h)
  · rw [List.getD, List.getElem?_eq_none (by omega)]; decide
 obtain ⟨x, hx⟩ : ∃ x, l.getD i 0 = x := ⟨_, rfl⟩
 obtain ⟨y, hy⟩ : ∃ x, m.getD i 0 = x := ⟨_, rfl⟩
 rw [hx] at h1 Ha ⊢
 rw [hy] at h2 Hb ⊢
 clear hx hy hl hm hva hvb
 have hw1 : IntKind.i64.wrap ((x : Int) - (y : Int)) = (x : Int) - y := IntWalk.i64_in _ (by omega)
 go_enter Tryz.func166, Tryz.ntmps166
 go_wp2_with fail
 go_quiet ((first | (go_at_call 165; with_reducible exact Calls.quiet_of_same (Ha.out _)) | (go_at_call 165; with_reducible exact Calls.quiet_of_same (Hb.out _))))
 go_wp2
 go_ret
 exact ⟨rfl, (Below.refl _ _).drewN _⟩
set_option maxRecDepth 100000 in
theorem by1_any (l : List Nat) (va : Value) (n i : Nat) (a b : Addr) (w : World) (ha : w.cell? a = some va) (hb : w.cell? b = some (.int .i64 (n : Int))) (hva : Rd encN w va l) (hi : i ≤ 1099511627776) (hl : ∀ z ∈ l, z < 10000) (hn : n < 10000) :
 Calls Tryz.prog 198 #[.int .i64 i, .pointer (some a), .pointer (some b)] w fun e w' => e = .returned (.int .i64 ((l.getD i 0 : Nat) * n : Int)) ∧ Below w.heap.size w w' := by
 have Ha := Lib.hid (fun q => at_same l va i (w.drewN q) (hva.below ((Below.refl _ w).drewN q)) hi)
 obtain ⟨aa, ca, rfl, _⟩ := hva.open'
 have h1 : l.getD i 0 < 10000 := by
  by_cases h : i < l.length
  · rw [List.getD, List.getElem?_eq_getElem h]; exact hl _ (List.getElem_mem h)
  · rw [List.getD, List.getElem?_eq_none (by omega)]; decide
 obtain ⟨x, hx⟩ : ∃ x, l.getD i 0 = x := ⟨_, rfl⟩
 rw [hx] at h1 Ha ⊢
 clear hx hl hva
 have h5 : x * n ≤ 9999 * 9999 := Nat.mul_le_mul (by omega) (by omega)
 have hw1 : IntKind.i64.wrap ((x : Int) * (n : Int)) = (x : Int) * n := IntWalk.i64_in _ (by rw [← Int.natCast_mul]; omega)
 go_enter Tryz.func198, Tryz.ntmps198
 go_wp2_with fail
 go_quiet ((go_at_call 165; with_reducible exact Calls.quiet_of_same (Ha.out _)))
 go_wp2
 go_ret
 exact ⟨rfl, (Below.refl _ _).drewN _⟩
theorem getD_digit {n : Nat} (i : Nat) : (digs 10000 n).getD i 0 < 10000 := digs_getD_lt (by decide) n i
theorem getD_out {l : List Nat} {i : Nat} (h : l.length ≤ i) : l.getD i 0 = 0 := by rw [List.getD, List.getElem?_eq_none h]; rfl
theorem digSum_digs {x k : Nat} (h : (digs 10000 x).length ≤ k) : digSum 10000 (fun i => ((digs 10000 x).getD i 0 : Int)) k = (x : Int) := by
 rw [digSum_getD, List.take_of_length_le h, val_digs (by decide)]
set_option maxRecDepth 100000 in
theorem numPlus_any (x y : Nat) (va vb : Value) (w : World) (ha : Rd encN w va (digs 10000 x)) (hb : Rd encN w vb (digs 10000 y)) (hx : (digs 10000 x).length ≤ 900) (hy : (digs 10000 y).length ≤ 900) :
 Calls Tryz.prog 134 #[va, vb] w fun e w' => ∃ v, e = .returned v ∧ Rd encN w' v (digs 10000 (x + y)) ∧ From w.heap.size v ∧ Below w.heap.size w w' := by
 obtain ⟨aa, ca, rfl, _⟩ := ha.open'
 obtain ⟨ab, cb, rfl, _⟩ := hb.open'
 have Ha := Lib.hid ha
 have Hb := Lib.hid hb
 obtain ⟨n, hn⟩ : ∃ n, (digs 10000 x).length = n := ⟨_, rfl⟩
 obtain ⟨m, hm⟩ : ∃ n, (digs 10000 y).length = n := ⟨_, rfl⟩
 have Hn := Lib.hid hn
 have Hm := Lib.hid hm
 rw [hn] at hx Ha ⊢
 rw [hm] at hy Hb ⊢
 clear hn hm ha hb
 have hmax : max (n : Int) (m : Int) = ((max n m : Nat) : Int) := by omega
 obtain ⟨N, hN⟩ : ∃ N, max n m = N := ⟨_, rfl⟩
 rw [hN] at hmax
 have hN1 : n ≤ N := by omega
 have hN2 : m ≤ N := by omega
 have hN3 : N ≤ 900 := by omega
 clear hN
 have hb1 : Blk ((w.alloc (.cells #[.slice aa n ca] 142)).alloc (.cells #[.slice ab m cb] 142)) w.heap.size #[.slice aa n ca] 142 := (Blk.new w _ _).alloc _
 have hb2 : Blk ((w.alloc (.cells #[.slice aa n ca] 142)).alloc (.cells #[.slice ab m cb] 142)) (w.heap.size + 1) #[.slice ab m cb] 142 := Blk.newAt _ _ _ (by simp)
 have hB0 : Below w.heap.size w ((w.alloc (.cells #[.slice aa n ca] 142)).alloc (.cells #[.slice ab m cb] 142)) := ((Below.refl _ w).alloc (Nat.le_refl _) _).alloc (by simp) _
 have Hfold := Lib.hid (fold_any 164 (.pointer (some ⟨w.heap.size, 0, none⟩)) (.pointer (some ⟨w.heap.size + 1, 0, none⟩)) (enters_of Tryz.func164 (by kernel_rfl) rfl) N (fun i => ((digs 10000 x).getD i 0 : Int) + ((digs 10000 y).getD i 0 : Int))
  ((w.alloc (.cells #[.slice aa n ca] 142)).alloc (.cells #[.slice ab m cb] 142)) (by omega)
  (fun i => by have h1 := getD_digit (n := x) i; have h2 := getD_digit (n := y) i; (try dsimp only); omega) (fun i hi => by (try dsimp only); rw [getD_out (by rw [Hn.out]; omega), getD_out (by rw [Hm.out]; omega)]; rfl)
  (by rw [digSum_add, digSum_digs (by rw [Hn.out]; exact hN1), digSum_digs (by rw [Hm.out]; exact hN2)]; omega)
  (fun i W hi hW => plus1_any _ _ _ _ i _ _ W ((hb1.below hW hb1.lt).cell rfl) ((hb2.below hW hb2.lt).cell rfl) ((Ha.out.below hB0).below hW) ((Hb.out.below hB0).below hW) (by omega) (digs_lt (by decide) x) (digs_lt (by decide) y)))
 have Hsum := Lib.hid (show digSum 10000 (fun i => ((digs 10000 x).getD i 0 : Int) + ((digs 10000 y).getD i 0 : Int)) N = ((x + y : Nat) : Int) by rw [digSum_add, digSum_digs (by rw [Hn.out]; exact hN1), digSum_digs (by rw [Hm.out]; exact hN2)]; omega)
 have HB0 := Lib.hid hB0
 clear hb1 hb2 hB0
 go_enter Tryz.func134, Tryz.ntmps134
 go_wp2_with (first | (go_at_call 163; refine (Hfold.out).mono ?_; rintro e w1 ⟨v, rfl, l, hr, hf, hd, hv, hbl⟩; have Hd := Lib.hid hd; have Hv := Lib.hid hv; clear hd hv) | (go_at_call 159; refine (trimmed_any l Hd.out _ _ hr).mono ?_; rintro e w2 ⟨v2, rfl, hr2, hf2, hb2⟩))
 go_ret
 have e1 : val 10000 l = x + y := by have h1 := Hv.out; rw [Hsum.out] at h1; omega
 rw [e1] at hr2
 exact ⟨_, rfl, hr2, hf2 _ (hf.mono HB0.out.size), (HB0.out.trans (hbl.mono HB0.out.size)).trans (hb2.mono (Nat.le_trans HB0.out.size hbl.size))⟩
set_option maxRecDepth 100000 in
theorem numMinus_any (x y : Nat) (hxy : y ≤ x) (va vb : Value) (w : World) (ha : Rd encN w va (digs 10000 x)) (hb : Rd encN w vb (digs 10000 y)) (hx : (digs 10000 x).length ≤ 900) (hy : (digs 10000 y).length ≤ 900) :
 Calls Tryz.prog 136 #[va, vb] w fun e w' => ∃ v, e = .returned v ∧ Rd encN w' v (digs 10000 (x - y)) ∧ From w.heap.size v ∧ Below w.heap.size w w' := by
 obtain ⟨aa, ca, rfl, _⟩ := ha.open'
 obtain ⟨ab, cb, rfl, _⟩ := hb.open'
 have Ha := Lib.hid ha
 have Hb := Lib.hid hb
 obtain ⟨n, hn⟩ : ∃ n, (digs 10000 x).length = n := ⟨_, rfl⟩
 obtain ⟨m, hm⟩ : ∃ n, (digs 10000 y).length = n := ⟨_, rfl⟩
 have Hn := Lib.hid hn
 have Hm := Lib.hid hm
 rw [hn] at hx Ha ⊢
 rw [hm] at hy Hb ⊢
 clear hn hm ha hb
 have hN1 : n ≤ n := Nat.le_refl _
 have hN2 : m ≤ n := by rw [← Hn.out, ← Hm.out]; exact digs_length_mono (by decide) hxy
 have hb1 : Blk ((w.alloc (.cells #[.slice aa n ca] 142)).alloc (.cells #[.slice ab m cb] 142)) w.heap.size #[.slice aa n ca] 142 := (Blk.new w _ _).alloc _
 have hb2 : Blk ((w.alloc (.cells #[.slice aa n ca] 142)).alloc (.cells #[.slice ab m cb] 142)) (w.heap.size + 1) #[.slice ab m cb] 142 := Blk.newAt _ _ _ (by simp)
 have hB0 : Below w.heap.size w ((w.alloc (.cells #[.slice aa n ca] 142)).alloc (.cells #[.slice ab m cb] 142)) := ((Below.refl _ w).alloc (Nat.le_refl _) _).alloc (by simp) _
 have Hfold := Lib.hid (fold_any 166 (.pointer (some ⟨w.heap.size, 0, none⟩)) (.pointer (some ⟨w.heap.size + 1, 0, none⟩)) (enters_of Tryz.func166 (by kernel_rfl) rfl) n (fun i => ((digs 10000 x).getD i 0 : Int) - ((digs 10000 y).getD i 0 : Int))
  ((w.alloc (.cells #[.slice aa n ca] 142)).alloc (.cells #[.slice ab m cb] 142)) (by omega)
  (fun i => by have h1 := getD_digit (n := x) i; have h2 := getD_digit (n := y) i; (try dsimp only); omega) (fun i hi => by (try dsimp only); rw [getD_out (by rw [Hn.out]; omega), getD_out (by rw [Hm.out]; omega)]; rfl)
  (by rw [digSum_sub, digSum_digs (by rw [Hn.out]; exact hN1), digSum_digs (by rw [Hm.out]; exact hN2)]; omega)
  (fun i W hi hW => minus1_any _ _ _ _ i _ _ W ((hb1.below hW hb1.lt).cell rfl) ((hb2.below hW hb2.lt).cell rfl) ((Ha.out.below hB0).below hW) ((Hb.out.below hB0).below hW) (by omega) (digs_lt (by decide) x) (digs_lt (by decide) y)))
 have Hsum := Lib.hid (show digSum 10000 (fun i => ((digs 10000 x).getD i 0 : Int) - ((digs 10000 y).getD i 0 : Int)) n = ((x - y : Nat) : Int) by rw [digSum_sub, digSum_digs (by rw [Hn.out]; exact hN1), digSum_digs (by rw [Hm.out]; exact hN2)]; omega)
 have HB0 := Lib.hid hB0
 clear hb1 hb2 hB0
 go_enter Tryz.func136, Tryz.ntmps136
 go_wp2_with (first | (go_at_call 163; refine (Hfold.out).mono ?_; rintro e w1 ⟨v, rfl, l, hr, hf, hd, hv, hbl⟩; have Hd := Lib.hid hd; have Hv := Lib.hid hv; clear hd hv) | (go_at_call 159; refine (trimmed_any l Hd.out _ _ hr).mono ?_; rintro e w2 ⟨v2, rfl, hr2, hf2, hb2⟩))
 go_ret
 have e1 : val 10000 l = x - y := by have h1 := Hv.out; rw [Hsum.out] at h1; omega
 rw [e1] at hr2
 exact ⟨_, rfl, hr2, hf2 _ (hf.mono HB0.out.size), (HB0.out.trans (hbl.mono HB0.out.size)).trans (hb2.mono (Nat.le_trans HB0.out.size hbl.size))⟩
set_option maxRecDepth 100000 in
theorem numBy_any (x n : Nat) (hn : n < 10000) (va : Value) (w : World) (ha : Rd encN w va (digs 10000 x)) (hx : (digs 10000 x).length ≤ 900) :
 Calls Tryz.prog 160 #[va, .int .i64 (n : Int)] w fun e w' => ∃ v, e = .returned v ∧ Rd encN w' v (digs 10000 (x * n)) ∧ From w.heap.size v ∧ Below w.heap.size w w' := by
 obtain ⟨aa, ca, rfl, _⟩ := ha.open'
 have Ha := Lib.hid ha
 obtain ⟨N, hN⟩ : ∃ n, (digs 10000 x).length = n := ⟨_, rfl⟩
 have HN := Lib.hid hN
 rw [hN] at hx Ha ⊢
 clear hN ha
 have hb1 : Blk ((w.alloc (.cells #[.slice aa N ca] 142)).alloc (.cells #[.int .i64 (n : Int)] 3)) w.heap.size #[.slice aa N ca] 142 := (Blk.new w _ _).alloc _
 have hb2 : Blk ((w.alloc (.cells #[.slice aa N ca] 142)).alloc (.cells #[.int .i64 (n : Int)] 3)) (w.heap.size + 1) #[.int .i64 (n : Int)] 3 := Blk.newAt _ _ _ (by simp)
 have hB0 : Below w.heap.size w ((w.alloc (.cells #[.slice aa N ca] 142)).alloc (.cells #[.int .i64 (n : Int)] 3)) := ((Below.refl _ w).alloc (Nat.le_refl _) _).alloc (by simp) _
 have Hfold := Lib.hid (fold_any 198 (.pointer (some ⟨w.heap.size, 0, none⟩)) (.pointer (some ⟨w.heap.size + 1, 0, none⟩)) (enters_of Tryz.func198 (by kernel_rfl) rfl) N (fun i => ((digs 10000 x).getD i 0 : Int) * (n : Int))
  ((w.alloc (.cells #[.slice aa N ca] 142)).alloc (.cells #[.int .i64 (n : Int)] 3)) (by omega)
  (fun i => by
    have h1 := getD_digit (n := x) i
    try dsimp only
    generalize (digs 10000 x).getD i 0 = z at *
    have h2 : z * n ≤ 9999 * 9999 := Nat.mul_le_mul (by omega) (by omega)
    rw [← Int.natCast_mul]; omega) (fun i hi => by (try dsimp only); rw [getD_out (by rw [HN.out]; omega)]; simp)
  (by rw [digSum_mul, digSum_digs (by rw [HN.out]; exact Nat.le_refl _), ← Int.natCast_mul]; omega)
  (fun i W hi hW => by1_any _ _ n i _ _ W ((hb1.below hW hb1.lt).cell rfl) ((hb2.below hW hb2.lt).cell rfl) ((Ha.out.below hB0).below hW) (by omega) (digs_lt (by decide) x) hn))
 have Hsum := Lib.hid (show digSum 10000 (fun i => ((digs 10000 x).getD i 0 : Int) * (n : Int)) N = ((x * n : Nat) : Int) by rw [digSum_mul, digSum_digs (by rw [HN.out]; exact Nat.le_refl _), Int.natCast_mul])
 have HB0 := Lib.hid hB0
 clear hb1 hb2 hB0
 go_enter Tryz.func160, Tryz.ntmps160
 go_wp2_with (first | (go_at_call 163; refine (Hfold.out).mono ?_; rintro e w1 ⟨v, rfl, l, hr, hf, hd, hv, hbl⟩; have Hd := Lib.hid hd; have Hv := Lib.hid hv; clear hd hv) | (go_at_call 159; refine (trimmed_any l Hd.out _ _ hr).mono ?_; rintro e w2 ⟨v2, rfl, hr2, hf2, hb2⟩))
 go_ret
 have e1 : val 10000 l = x * n := by have h1 := Hv.out; rw [Hsum.out] at h1; exact Int.ofNat_inj.1 h1
 rw [e1] at hr2
 exact ⟨_, rfl, hr2, hf2 _ (hf.mono HB0.out.size), (HB0.out.trans (hbl.mono HB0.out.size)).trans (hb2.mono (Nat.le_trans HB0.out.size hbl.size))⟩
attribute [local go_sem] Oper.semAt_some
theorem rd_kept {α : Type} {enc : α → Value} {w w' : World} {v : Value} {l : List α} {row : Option Nat} (h : Rd enc w v l) (hg : w.grownBy w' row) (hr : ∀ r, row = some r → ∃ o : Obj, w.heap[r]? = some o ∧ o.isCells = false) : Rd enc w' v l := by
 rcases h with h | ⟨b, off, cap, rfl, h1, h2, h3, h4⟩
 · exact .inl h
 · exact .inr ⟨b, off, cap, rfl, Nat.lt_of_lt_of_le h1 hg.size, h2, h3, fun i x hx => cell_kept (h4 i x hx) hg hr⟩
def prodOf {m : List Nat} (x : Nat) (pre : List (Place m)) : Nat := (pre.map (·.1)).foldl (hornerStep 10000 x) 0
theorem prodOf_snoc {m : List Nat} (x : Nat) (pre : List (Place m)) (p : Place m) : prodOf x (pre ++ [p]) = prodOf x pre * 10000 + x * p.1.2 := by
 unfold prodOf; rw [List.map_append, List.foldl_append]; rfl
theorem bw_horner (x : Nat) (l : List Nat) (k : Nat) (hk : k ≤ l.length) : (bwTo l k).foldl (hornerStep 10000 x) 0 = x * val 10000 (l.drop (l.length - k)) := by
 induction k with
 | zero => rw [Nat.sub_zero, List.drop_length]; rfl
 | succ k ih =>
   rw [bwTo_succ, List.foldl_append, ih (by omega)]
   have e : l.drop (l.length - (k + 1)) = l.getD (l.length - 1 - k) 0 :: l.drop (l.length - k) := by
    have h1 : l.length - (k + 1) < l.length := by omega
    rw [List.drop_eq_getElem_cons h1, show l.length - (k + 1) + 1 = l.length - k by omega]
    congr 1
    simp [List.getD, List.getElem?_eq_getElem (show l.length - 1 - k < l.length by omega), show l.length - (k + 1) = l.length - 1 - k by omega]
   rw [e, val, List.foldl_cons, List.foldl_nil, hornerStep, Nat.mul_add, Nat.mul_assoc, Nat.mul_comm 10000]
   exact Nat.add_comm _ _
set_option maxRecDepth 100000 in
set_option maxHeartbeats 2000000 in
theorem numTimes_any (x y : Nat) (va vb : Value) (w : World) (ha : Rd encN w va (digs 10000 x)) (hb : Rd encN w vb (digs 10000 y)) (hx : (digs 10000 x).length ≤ 400) (hy : (digs 10000 y).length ≤ 400) (hfb : ∀ k, vb.ownBlock = some k → k < w.heap.size) :
 Calls Tryz.prog 150 #[va, vb] w fun e w' => ∃ v, e = .returned v ∧ Rd encN w' v (digs 10000 (x * y)) ∧ From w.heap.size v ∧ Below w.heap.size w w' := by
 obtain ⟨aa, ca, rfl, _⟩ := ha.open'
 obtain ⟨ab, cb, rfl, _⟩ := hb.open'
 have Ha := Lib.hid ha
 have Hb := Lib.hid hb
 obtain ⟨n, hn⟩ : ∃ n, (digs 10000 x).length = n := ⟨_, rfl⟩
 obtain ⟨m, hm⟩ : ∃ n, (digs 10000 y).length = n := ⟨_, rfl⟩
 have Hn := Lib.hid hn
 have Hm := Lib.hid hm
 rw [hn] at hx Ha ⊢
 rw [hm] at hy Hb hfb ⊢
 have Hfb := Lib.hid hfb
 clear hn hm ha hb hfb
 refine (callsIn_wide (n := 5)).1 ?_
 refine callsIn_of_wp_marks Tryz.func150 rfl trivial ?_ rfl
 simp only [Tryz.ntmps150, List.size_toArray, List.length_cons, List.length_nil, Nat.reduceAdd, Nat.reduceSub, Array.replicate_succ, Array.replicate_zero, List.push_toArray, List.append_toArray, List.nil_append, List.cons_append]
 gi_wp2_with (refine ⟨trivial, ?_⟩; gi_at_call 154; refine (callsIn_wide.2 (backward_any _ _ _ _)).mono ?_; rintro e w' ⟨rfl, rfl⟩)
 have hA0 : Blk (((w.alloc (.cells #[.slice aa n ca] 142)).alloc (.cells #[.slice none 0 0] 142)).alloc (.cells #[.slice ab m cb] 142)) w.heap.size #[.slice aa n ca] 142 := ((Blk.new w _ _).alloc _).alloc _
 have hO0 : Blk (((w.alloc (.cells #[.slice aa n ca] 142)).alloc (.cells #[.slice none 0 0] 142)).alloc (.cells #[.slice ab m cb] 142)) (w.heap.size + 1) #[.slice none 0 0] 142 := (Blk.newAt _ _ _ (by simp)).alloc _
 have hS0 : Blk (((w.alloc (.cells #[.slice aa n ca] 142)).alloc (.cells #[.slice none 0 0] 142)).alloc (.cells #[.slice ab m cb] 142)) (w.heap.size + 1 + 1) #[.slice ab m cb] 142 := Blk.newAt _ _ _ (by simp)
 have hB0 : Below w.heap.size w (((w.alloc (.cells #[.slice aa n ca] 142)).alloc (.cells #[.slice none 0 0] 142)).alloc (.cells #[.slice ab m cb] 142)) := (((Below.refl _ w).alloc (Nat.le_refl _) _).alloc (by simp) _).alloc (by simp; omega) _
 have hsz : w.heap.size + 1 + 1 + 1 = (((w.alloc (.cells #[.slice aa n ca] 142)).alloc (.cells #[.slice none 0 0] 142)).alloc (.cells #[.slice ab m cb] 142)).heap.size := by simp
 generalize (((w.alloc (.cells #[.slice aa n ca] 142)).alloc (.cells #[.slice none 0 0] 142)).alloc (.cells #[.slice ab m cb] 142)) = W0 at *
 refine wp_backward (by omega) (w.heap.size + 1 + 1) w.heap.size rfl (.slice ab m cb) (digs 10000 y) (by rw [Hm.out]; omega) hS0.lt (by omega) (hS0.cell rfl) (Hb.out.below hB0) Hfb.out rfl
  (fun pre W => (∃ v, Blk W w.heap.size #[.slice aa n ca] 142 ∧ Blk W (w.heap.size + 1) #[v] 142 ∧ Rd encN W v (digs 10000 (prodOf x pre)) ∧ From (w.heap.size + 3) v ∧ w.heap.size + 3 ≤ W.heap.size) ∧ Below w.heap.size w W)
  (fun _ _ _ => False)
  ?own ?ownx ?start (fun p t => ((t.setIfInBounds 10 (.int .i64 (p.1.1 : Int))).setIfInBounds 11 (.int .i64 (p.1.2 : Int))).setIfInBounds 7 (.int .i64 (p.1.2 : Int))) ?assign ?body ?done ?stop
 case own => exact OwnFrom.and (Own.from (fun s A B row hs hg hr => by obtain ⟨v, h1, h2, h3, h4, h5⟩ := hs; exact ⟨v, h1.kept hg hr, h2.kept hg hr, rd_kept h3 hg hr, h4, Nat.le_trans h5 hg.size⟩) _) (ownFrom_below (Nat.le_refl _) (by omega))
 case ownx => exact fun _ _ _ _ _ hs _ _ => hs
 case start => exact ⟨⟨_, hA0, hO0, .inl ⟨rfl, digs_zero 10000⟩, From.nil _, by omega⟩, hB0⟩
 case assign =>
  intro l x W K hK
  simp only [List.setIfInBounds_toArray, List.set_cons_succ, List.set_cons_zero] at hK
  gi_wp2
  exact hK
 case body =>
  rintro l pre p W ⟨⟨v, hA, hO, hr, hfr, hw3⟩, hB⟩ hlen
  simp only [List.setIfInBounds_toArray, List.set_cons_succ, List.set_cons_zero]
  rw [Hm.out] at hlen
  obtain ⟨F, hF⟩ : ∃ F, prodOf x pre = F := ⟨_, rfl⟩
  rw [hF] at hr
  have HF := Lib.hid hF
  have hpd : p.1.2 < 10000 := digs_lt (by decide) y _ (List.mem_of_getElem? p.2)
  have hlF : (digs 10000 F).length ≤ 820 := by
   have h1 := horner_le (B := 10000) (x := x) (by decide) (pre.map (·.1)) (by
    intro q hq
    obtain ⟨r, hr, rfl⟩ := List.mem_map.1 hq
    exact digs_lt (by decide) y _ (List.mem_of_getElem? r.2))
   have h2 : (pre.map (·.1)).foldl (hornerStep 10000 x) 0 = F := HF.out
   rw [h2, List.length_map] at h1
   have h3 := (digs_length_le (B := 10000) (by decide) x n).1 (by rw [Hn.out]; exact Nat.le_refl _)
   have h4 : F < 10000 ^ (n + pre.length) ∨ F = 0 := by
    by_cases hx0 : x = 0
    · subst hx0; right; simp at h1; exact h1
    · left
      rw [Nat.pow_add]
      have h5 : x * 10000 ^ pre.length ≤ 10000 ^ n * 10000 ^ pre.length := Nat.mul_le_mul_right _ (by omega)
      omega
   rcases h4 with h4 | h4
   · have h5 := (digs_length_le (B := 10000) (by decide) F (n + pre.length)).2 h4
     omega
   · rw [h4, digs_zero]; simp
  clear hF
  have hlp : (digs 10000 (x * p.1.2)).length ≤ 401 := by
   have h3 := (digs_length_le (B := 10000) (by decide) x n).1 (by rw [Hn.out]; exact Nat.le_refl _)
   have h4 : x * p.1.2 < 10000 ^ (n + 1) := by
    rw [Nat.pow_succ]
    exact Nat.mul_lt_mul'' h3 hpd
   have h5 := (digs_length_le (B := 10000) (by decide) (x * p.1.2) (n + 1)).2 h4
   omega
  have a0 : W.cell? ⟨w.heap.size, 0, none⟩ = some (.slice aa n ca) := hA.cell rfl
  have hbs := hB.size
  have hol := hO.lt
  obtain ⟨av, cv, rfl, _⟩ := hr.open'
  have o0 := hO.cell (i := 0) rfl
  have of0 := hO.free 0
  by_cases hz : F = 0
  · have hl0 : (digs 10000 F).length ≤ 0 := by rw [hz, digs_zero]; simp
    have Hz := Lib.hid hz; clear hz
    have hmx : Tryz.prog.follows .mixedOrders = true := by kernel_rfl
    gi_wp2
    have hO2 : Blk W.drew (w.heap.size + 1) #[.slice av (digs 10000 F).length cv] 142 := hO
    have hA2 : Blk W.drew w.heap.size #[.slice aa n ca] 142 := hA
    have hr1 : Rd encN W.drew (.slice av (digs 10000 F).length cv) (digs 10000 (F * 10000)) := by
     have h : Rd encN W.drew (.slice av (digs 10000 F).length cv) (digs 10000 F) := hr
     rw [show F * 10000 = F by have := Hz.out; omega]; exact h
    have hB2 : Below w.heap.size w W.drew := hB.drew
    have hk2 : KeepsOthers W W.drew := KeepsOthers.drew _
    have hK2 : KpB w.heap.size (w.heap.size + 1 + 1) W W.drew := KpB.drewN W 1
    have HL2 : Hid (w.heap.size + 3 ≤ W.drew.heap.size) := hw3
    have hlF2 : (digs 10000 (F * 10000)).length ≤ 821 := by rw [Hz.out, Nat.zero_mul, digs_zero]; simp
    have HA2 := Lib.hid hA2
    have HO2 := Lib.hid hO2
    have Hr1 := Lib.hid hr1
    have HB2 := Lib.hid hB2
    have Hk2 := Lib.hid hk2
    have HK2 := Lib.hid hK2
    have a2 := hA2.cell (i := 0) rfl
    have o2 := hO2.cell (i := 0) rfl
    have of2 := hO2.free 0
    clear hA2 hO2 hr1 hB2 hk2 hK2
    gi_region_with_o (first
     | (refine ⟨trivial, ?_⟩; gi_at_call 160; refine (CallsIn.inRound l (callsIn_wide.2 (numBy_any x p.1.2 hpd _ _ (Ha.out.below HB2.out) (by rw [Hn.out]; omega)))).mono ?_; rintro e w2 ⟨v2, rfl, hr2, hf2, hb2⟩; have o3 := (HO2.out.below hb2 HO2.out.lt).cell (i := 0) rfl; have of3 := (HO2.out.below hb2 HO2.out.lt).free 0)
     | (refine ⟨trivial, ?_⟩; gi_at_call 134; (refine (CallsIn.inRound l (callsIn_wide.2 (numPlus_any (F * 10000) (x * p.1.2) _ _ _ (Hr1.out.below hb2) hr2 (by omega) (by omega)))).mono ?_); rintro e w3 ⟨v3, rfl, hr3, hf3, hb3⟩; have o4 := ((HO2.out.below hb2 HO2.out.lt).below hb3 (by have := HO2.out.lt; have := hb2.size; omega)).cell (i := 0) rfl; have of4 := ((HO2.out.below hb2 HO2.out.lt).below hb3 (by have := HO2.out.lt; have := hb2.size; omega)).free 0; obtain ⟨a3, c3, rfl, _⟩ := hr3.open'))
    all_goals gi_wp2
    all_goals
     have hw13 := (HB2.out).size
     refine ⟨((Hk2.out.trans (keepsOthers_of_below hb2 (Nat.le_refl _))).trans (keepsOthers_of_below hb3 (Nat.le_refl _))).trans (KeepsOthers.setCell _ _ _) |>.from _, ?_, ⟨.slice a3 (digs 10000 (F * 10000 + x * p.1.2)).length c3, ?_, ?_, ?_, ?_, ?_⟩, ?_⟩
     · exact ((HK2.out.trans (KpB.of_below hb2 hw13 (by have := HL2.out; omega))).trans (KpB.of_below hb3 (Nat.le_trans hw13 hb2.size) (by have := HL2.out; have := hb2.size; omega))).trans (KpB.setCell _ (by simp) (by simp) _)
     · exact (((HA2.out.below hb2 HA2.out.lt).below hb3 (Nat.lt_of_lt_of_le HA2.out.lt hb2.size)).setOther (by simp) _)
     · exact ((HO2.out.below hb2 HO2.out.lt).below hb3 (Nat.lt_of_lt_of_le HO2.out.lt hb2.size)).set 0 _
     · rw [prodOf_snoc, HF.out]
       exact hr3.setCell (hf3.mono (by have := HL2.out; have := hb2.size; omega)) (show w.heap.size + 1 < w.heap.size + 3 by omega) _
     · exact hf3.mono (by have := HL2.out; have := hb2.size; omega)
     · simp [World.setCell]; have := HL2.out; have := hb2.size; have := hb3.size; omega
     · exact ((HB2.out.trans (hb2.mono hw13)).trans (hb3.mono (Nat.le_trans hw13 hb2.size))).setCell (by simp) _
  · have hl0 : 0 < (digs 10000 F).length := List.length_pos_iff.2 (fun e => hz ((digs_eq_nil (by decide)).1 e))
    have hmx : Tryz.prog.follows .mixedOrders = true := by kernel_rfl
    gi_wp2_with (gi_at_builtin; refine wpListIn_appRd (enc := encN) (e := 3) rfl _ _ 142 rfl (.int .i64 0) 8 Tryz.underlying142 infoInt rfl encN_one rfl (OwnL.lit1 W 0 rfl) rfl (hr.below ((Below.refl _ _).alloc (Nat.le_refl _) _)) (by simp; omega) (by decide) (by simp) ?_; intro v' w1 hown1 hB1 hk1; obtain ⟨gb, cp, rfl, hgb1, hgb2⟩ := hown1.cons_of; have hO1 := (hO.alloc (.cells #[.int .i64 0] 3)).below hB1 (by omega); have o1 := hO1.cell (i := 0) rfl; have of1 := hO1.free 0; have hA1 := (hA.alloc (.cells #[.int .i64 0] 3)).below hB1 (by have := hA.lt; omega); have a1 : w1.cell? ⟨w.heap.size, 0, none⟩ = some (.slice aa n ca) := hA1.cell rfl)
    have hsl : (.slice (some ⟨gb, 0, none⟩) ((digs 10000 F).length + 1) cp : Value) = .slice (some ⟨gb, 0, none⟩) ([0] ++ digs 10000 F).length cp := by simp
    have hdg : [0] ++ digs 10000 F = digs 10000 (F * 10000) := by
     have h := digs_shift (B := 10000) (d := 0) (n := F) (by decide) (by decide) (by omega)
     rw [Nat.zero_add, Nat.mul_comm] at h; rw [h]; rfl
    have hO2 : Blk (w1.setCell ⟨w.heap.size + 1, 0, none⟩ (.slice (some ⟨gb, 0, none⟩) ((digs 10000 F).length + 1) cp)).drew (w.heap.size + 1) #[.slice (some ⟨gb, 0, none⟩) ((digs 10000 F).length + 1) cp] 142 := hO1.set 0 _
    have hA2 : Blk (w1.setCell ⟨w.heap.size + 1, 0, none⟩ (.slice (some ⟨gb, 0, none⟩) ((digs 10000 F).length + 1) cp)).drew w.heap.size #[.slice aa n ca] 142 := hA1.setOther (by simp) _
    have hr1 : Rd encN (w1.setCell ⟨w.heap.size + 1, 0, none⟩ (.slice (some ⟨gb, 0, none⟩) ((digs 10000 F).length + 1) cp)).drew (.slice (some ⟨gb, 0, none⟩) ((digs 10000 F).length + 1) cp) (digs 10000 (F * 10000)) := by
     have h := hown1.rd.setCell (a := ⟨w.heap.size + 1, 0, none⟩) (C := w.heap.size + 3) (fun k hk => by cases hk; show w.heap.size + 3 ≤ gb; omega) (by simp) (.slice (some ⟨gb, 0, none⟩) ((digs 10000 F).length + 1) cp)
     rw [hdg] at h; exact h
    have hB2 : Below w.heap.size w (w1.setCell ⟨w.heap.size + 1, 0, none⟩ (.slice (some ⟨gb, 0, none⟩) ((digs 10000 F).length + 1) cp)).drew := (((hB.alloc hB.size _).trans (hB1.mono hbs)).setCell (by simp) _).drew
    have hk2 : KeepsOthers W (w1.setCell ⟨w.heap.size + 1, 0, none⟩ (.slice (some ⟨gb, 0, none⟩) ((digs 10000 F).length + 1) cp)).drew := (((KeepsOthers.alloc _ _).trans hk1).trans (KeepsOthers.setCell _ _ _)).trans (KeepsOthers.drew _)
    have hK2 : KpB w.heap.size (w.heap.size + 1 + 1) W (w1.setCell ⟨w.heap.size + 1, 0, none⟩ (.slice (some ⟨gb, 0, none⟩) ((digs 10000 F).length + 1) cp)).drew := ((KpB.of_below ((Below.refl _ W).alloc (Nat.le_refl _) _) hbs (by omega)).trans (KpB.of_below hB1 hbs (by omega))).trans ((KpB.setCell w1 (by simp) (by simp) _).trans (KpB.drewN _ 1))
    have HL2 : Hid (w.heap.size + 3 ≤ (w1.setCell ⟨w.heap.size + 1, 0, none⟩ (.slice (some ⟨gb, 0, none⟩) ((digs 10000 F).length + 1) cp)).drew.heap.size) := by
     show w.heap.size + 3 ≤ (w1.setCell ⟨w.heap.size + 1, 0, none⟩ (.slice (some ⟨gb, 0, none⟩) ((digs 10000 F).length + 1) cp)).drew.heap.size
     simp [World.setCell]; omega
    have hlF2 : (digs 10000 (F * 10000)).length ≤ 821 := by rw [← hdg]; simp; omega
    clear hsl hdg hO1 hA1 o1 of1 a1
    obtain ⟨W1, hW1⟩ : ∃ W1, (w1.setCell ⟨w.heap.size + 1, 0, none⟩ (.slice (some ⟨gb, 0, none⟩) ((digs 10000 F).length + 1) cp)).drew = W1 := ⟨_, rfl⟩
    have HA2 := Lib.hid hA2
    have HO2 := Lib.hid hO2
    have Hr1 := Lib.hid hr1
    have HB2 := Lib.hid hB2
    have Hk2 := Lib.hid hk2
    have HK2 := Lib.hid hK2
    have a2 := hA2.cell (i := 0) rfl
    have o2 := hO2.cell (i := 0) rfl
    have of2 := hO2.free 0
    clear hA2 hO2 hr1 hB2 hk2 hK2 hW1 W1
    gi_region_with_o (first
     | (refine ⟨trivial, ?_⟩; gi_at_call 160; refine (CallsIn.inRound l (callsIn_wide.2 (numBy_any x p.1.2 hpd _ _ (Ha.out.below HB2.out) (by rw [Hn.out]; omega)))).mono ?_; rintro e w2 ⟨v2, rfl, hr2, hf2, hb2⟩; have o3 := (HO2.out.below hb2 HO2.out.lt).cell (i := 0) rfl; have of3 := (HO2.out.below hb2 HO2.out.lt).free 0)
     | (refine ⟨trivial, ?_⟩; gi_at_call 134; (refine (CallsIn.inRound l (callsIn_wide.2 (numPlus_any (F * 10000) (x * p.1.2) _ _ _ (Hr1.out.below hb2) hr2 (by omega) (by omega)))).mono ?_); rintro e w3 ⟨v3, rfl, hr3, hf3, hb3⟩; have o4 := ((HO2.out.below hb2 HO2.out.lt).below hb3 (by have := HO2.out.lt; have := hb2.size; omega)).cell (i := 0) rfl; have of4 := ((HO2.out.below hb2 HO2.out.lt).below hb3 (by have := HO2.out.lt; have := hb2.size; omega)).free 0; obtain ⟨a3, c3, rfl, _⟩ := hr3.open'))
    all_goals gi_wp2
    all_goals
     have hw13 := (HB2.out).size
     refine ⟨((Hk2.out.trans (keepsOthers_of_below hb2 (Nat.le_refl _))).trans (keepsOthers_of_below hb3 (Nat.le_refl _))).trans (KeepsOthers.setCell _ _ _) |>.from _, ?_, ⟨.slice a3 (digs 10000 (F * 10000 + x * p.1.2)).length c3, ?_, ?_, ?_, ?_, ?_⟩, ?_⟩
     · exact ((HK2.out.trans (KpB.of_below hb2 hw13 (by have := HL2.out; omega))).trans (KpB.of_below hb3 (Nat.le_trans hw13 hb2.size) (by have := HL2.out; have := hb2.size; omega))).trans (KpB.setCell _ (by simp) (by simp) _)
     · exact (((HA2.out.below hb2 HA2.out.lt).below hb3 (Nat.lt_of_lt_of_le HA2.out.lt hb2.size)).setOther (by simp) _)
     · exact ((HO2.out.below hb2 HO2.out.lt).below hb3 (Nat.lt_of_lt_of_le HO2.out.lt hb2.size)).set 0 _
     · rw [prodOf_snoc, HF.out]
       exact hr3.setCell (hf3.mono (by have := HL2.out; have := hb2.size; omega)) (show w.heap.size + 1 < w.heap.size + 3 by omega) _
     · exact hf3.mono (by have := HL2.out; have := hb2.size; omega)
     · simp [World.setCell]; have := HL2.out; have := hb2.size; have := hb3.size; omega
     · exact ((HB2.out.trans (hb2.mono hw13)).trans (hb3.mono (Nat.le_trans hw13 hb2.size))).setCell (by simp) _
 case done =>
  rintro D ys W hD hys ⟨⟨v, hA, hO, hr, hfr, hw3⟩, hB⟩ hK
  have hxy : prodOf x ys = x * y := by
   unfold prodOf
   rw [hys, bw_horner x _ _ (Nat.le_refl _), Nat.sub_self, List.drop_zero, val_digs (by decide)]
  rw [hxy] at hr
  clear hxy hys
  have o0 : W.cell? ⟨w.heap.size + 1, 0, none⟩ = some v := hO.cell rfl
  obtain ⟨a9, c9, rfl, _⟩ := hr.open'
  gi_wp2
  refine ⟨by simp, .inl ⟨_, _, rfl, run_takeDeferred hK, ?_⟩⟩
  refine ⟨_, results_tmp rfl _ _ _, _, rfl, ?_, hfr.mono (by omega), hB.trans (belowK_b (w := w) (Nat.le_refl _) W D _ _ (by omega) hK rfl rfl)⟩
  exact rd_kept hr (grownBy_putObj' _ D (.deferred none)) (fun r e => by cases e; exact ⟨_, hK, rfl⟩)
 case stop =>
  rintro D c pre W _ _ h _
  exact h.elim
set_option maxRecDepth 100000 in
set_option maxHeartbeats 1000000 in
theorem search_any (gf : Nat) (p1 p2 : Value) (eg : ∀ args w, (callFunc gf args).run Tryz.prog w = .ok (.enter gf args) w) (n : Nat) (f : Nat → Bool) (w : World) (hn : n ≤ 1000000)
 (hg : ∀ (i : Nat) W, i < n → Below w.heap.size w W → Calls Tryz.prog gf #[.int .i64 i, p1, p2] W fun e W' => e = .returned (.bool (f i)) ∧ Below W.heap.size W W') (hmono : ∀ i j, i ≤ j → f i = true → f j = true) :
 Calls Tryz.prog 162 #[.int .i64 n, .func (.func gf) #[] #[p1, p2]] w fun e w' => ∃ k : Nat, e = .returned (.int .i64 k) ∧ (k ≤ n ∧ (∀ j, j < k → f j = false) ∧ (k < n → f k = true)) ∧ Below w.heap.size w w' := by
 have Hg := Lib.hid hg
 have Hm := Lib.hid hmono
 clear hg hmono
 go_enter Tryz.func162, Tryz.ntmps162
 go_wp2
 go_loopw [5, 6] (fun iv jv wr => ∃ i j : Nat, iv = .int .i64 i ∧ jv = .int .i64 j ∧ i ≤ j ∧ j ≤ n ∧ (∀ k, k < i → f k = false) ∧ (j < n → f j = true) ∧ Below w.heap.size w wr) (fun iv jv _ => (intOf jv - intOf iv).toNat)
 case atStart => exact ⟨0, n, rfl, rfl, Nat.zero_le _, Nat.le_refl _, fun k hk => absurd hk (Nat.not_lt_zero k), fun h => absurd h (Nat.lt_irrefl n), Below.refl _ _⟩
 case round =>
  obtain ⟨i, j, rfl, rfl, hij, hjn, h1, h2, hB⟩ := hrel
  have H1 := Lib.hid h1; clear h1
  have H2 := Lib.hid h2; clear h2
  by_cases hlt : i < j
  · obtain ⟨h, hh⟩ : ∃ h, (i + j) / 2 = h := ⟨_, rfl⟩
    have hh2 : ((i : Int) + (j : Int)) / 2 = (h : Int) := by omega
    have hb1 : i ≤ h := by omega
    have hb2 : h < j := by omega
    have HgH := Lib.hid (Hg.out h wr (by omega) hB)
    clear hh
    cases hf : f h
    · rw [hf] at HgH
      have Hf := Lib.hid hf; clear hf
      go_wp2_with ((with_reducible refine (HgH.out).mono ?_); rintro _ w2 ⟨rfl, hb⟩)
      go_roundw
      case rel =>
       refine ⟨h + 1, j, by go_num, rfl, by omega, hjn, fun k hk => ?_, H2.out, hB.trans (hb.mono hB.size)⟩
       cases hfk : f k with
       | false => rfl
       | true => have := Hm.out k h (by omega) hfk; rw [Hf.out] at this; cases this
      case measure => simp [intOf]; omega
    · rw [hf] at HgH
      have Hf := Lib.hid hf; clear hf
      go_wp2_with ((with_reducible refine (HgH.out).mono ?_); rintro _ w2 ⟨rfl, hb⟩)
      go_roundw
      case rel => exact ⟨i, h, rfl, rfl, hb1, by omega, H1.out, fun _ => Hf.out, hB.trans (hb.mono hB.size)⟩
      case measure => simp [intOf]; omega
  · obtain rfl : i = j := by omega
    go_wp2
    go_ret
    exact ⟨i, rfl, ⟨hjn, H1.out, H2.out⟩, hB⟩
set_option maxRecDepth 100000 in
set_option maxHeartbeats 2000000 in
theorem over1_any (y R i : Nat) (mv rv : Value) (bb rb : Nat) (w : World) (hm : Rd encN w mv (digs 10000 y)) (hr : Rd encN w rv (digs 10000 R)) (hb : w.cell? ⟨bb, 0, none⟩ = some (.func (.func 160) #[mv] #[])) (hbl : bb < w.heap.size)
 (hrb : w.cell? ⟨rb, 0, none⟩ = some rv) (hrl : rb < w.heap.size) (hi : i < 9999) (hy : (digs 10000 y).length ≤ 800) (hR : (digs 10000 R).length ≤ 900) :
 Calls Tryz.prog 161 #[.int .i64 i, .pointer (some ⟨bb, 0, none⟩), .pointer (some ⟨rb, 0, none⟩)] w fun e w' => e = .returned (.bool (decide (R < y * (i + 1)))) ∧ Below w.heap.size w w' := by
 have Hm := Lib.hid hm
 have Hr := Lib.hid hr
 obtain ⟨ma, mc, rfl, _⟩ := hm.open'
 obtain ⟨ra, rc, rfl, _⟩ := hr.open'
 clear hm hr
 have hlp : (digs 10000 (y * (i + 1))).length ≤ 801 := by
  obtain ⟨n, hn⟩ : ∃ n, (digs 10000 y).length = n := ⟨_, rfl⟩
  have h3 := (digs_length_le (B := 10000) (by decide) y n).1 (by rw [hn]; exact Nat.le_refl _)
  have h4 : y * (i + 1) < 10000 ^ (n + 1) := by rw [Nat.pow_succ]; exact Nat.mul_lt_mul'' h3 (by omega)
  have h5 := (digs_length_le (B := 10000) (by decide) (y * (i + 1)) (n + 1)).2 h4
  omega
 have hcmp : decide (0 < cmpN (y * (i + 1)) R) = decide (R < y * (i + 1)) := by
  by_cases h : R < y * (i + 1)
  · rw [cmpN_gt h]; simp [h]
  · have h2 : cmpN (y * (i + 1)) R ≤ 0 := by unfold cmpN; split <;> omega
    have h3 : ¬ 0 < cmpN (y * (i + 1)) R := by omega
    simp only [h, h3]
 obtain ⟨cv, hcv⟩ : ∃ c, cmpN (y * (i + 1)) R = c := ⟨_, rfl⟩
 obtain ⟨P, hP⟩ : ∃ c, y * (i + 1) = c := ⟨_, rfl⟩
 have hby : ∀ W, Below w.heap.size w W → Calls Tryz.prog 160 #[.slice ma (digs 10000 y).length mc, .int .i64 ((i : Int) + 1)] W fun e w' => ∃ v, e = .returned v ∧ Rd encN w' v (digs 10000 P) ∧ From W.heap.size v ∧ Below W.heap.size W w' := by
  intro W hW
  have := numBy_any y (i + 1) (by omega) _ W (Hm.out.below hW) (by omega)
  rw [hP] at this
  rwa [show ((i + 1 : Nat) : Int) = (i : Int) + 1 by omega] at this
 have hco : ∀ W v, Below w.heap.size w W → Rd encN W v (digs 10000 P) → Calls Tryz.prog 132 #[v, .slice ra (digs 10000 R).length rc] W fun e w' => e = .returned (.int .i64 cv) ∧ Below W.heap.size W w' := by
  intro W v hW hv
  rw [← hcv, hP]
  exact compare_any P R _ _ W hv (Hr.out.below hW) (by rw [← hP]; omega)
 rw [hcv] at hcmp
 have Hby := Lib.hid hby
 have Hco := Lib.hid hco
 rw [← hcmp]
 clear hby hco hcv hcmp hlp hP
 have hmx : Tryz.prog.follows .mixedOrders = true := by kernel_rfl
 go_enter Tryz.func161, Tryz.ntmps161
 go_wp2_with fail
 have hw1 : IntKind.i64.wrap ((i : Int) + 1) = (i : Int) + 1 := IntWalk.i64_in _ (by omega)
 go_region_with (first
  | (go_at_call 160; (with_reducible refine (Hby.out _ ((Below.refl _ w).drew)).mono ?_); rintro e w2 ⟨v2, rfl, hr2, hf2, hb2⟩; have hb12 : Below w.heap.size w w2 := ((Below.refl _ w).drew).trans hb2; have r2 : w2.cell? ⟨rb, 0, none⟩ = some (.slice ra (digs 10000 R).length rc) := (hb2.cell (p := ⟨rb, 0, none⟩) hrl).trans hrb)
  | (go_at_call 132; (with_reducible refine (Hco.out _ _ hb12 hr2).mono ?_); rintro e w3 ⟨rfl, hb3⟩))
 all_goals go_wp2
 all_goals go_ret
 all_goals exact ⟨rfl, hb12.trans (hb3.mono hb12.size)⟩
end Go.Proofs.YtnfamgpjehohaaaGreatDoor
namespace Go.Proofs.YtnfamgpjehohaaaGreatDoor
open Yk
def ovStep (y : Nat) (s : Nat × List Nat) (p : Nat × Nat) : Nat × List Nat := ((p.2 + 10000 * s.1) % y, s.2.set p.1 ((p.2 + 10000 * s.1) / y))
def ovFold {l : List Nat} (y n : Nat) (pre : List (Place l)) : Nat × List Nat := (pre.map (·.1)).foldl (ovStep y) (0, List.replicate n 0)
theorem ovFold_snoc {l : List Nat} (y n : Nat) (pre : List (Place l)) (p : Place l) : ovFold y n (pre ++ [p]) = ovStep y (ovFold y n pre) p.1 := by
 unfold ovFold; rw [List.map_append, List.foldl_append]; rfl
theorem ovFold_inv {l : List Nat} {y n : Nat} (hy : 0 < y) (hl : ∀ z ∈ l, z < 10000) (pre : List (Place l)) : (ovFold y n pre).1 < y ∧ (ovFold y n pre).2.length = n ∧ (∀ z ∈ (ovFold y n pre).2, z < 10000) := by
 induction h : pre.length generalizing pre with
 | zero => rw [List.eq_nil_of_length_eq_zero h]; exact ⟨hy, by simp [ovFold], by simp [ovFold]⟩
 | succ k ih =>
   obtain ⟨ini, last, rfl⟩ : ∃ ini last, pre = ini ++ [last] := ⟨pre.dropLast, pre.getLast (by intro e; rw [e] at h; simp at h), (List.dropLast_concat_getLast _).symm⟩
   obtain ⟨h1, h2, h3⟩ := ih ini (by simp at h; omega)
   have hp : last.1.2 < 10000 := hl _ (List.mem_of_getElem? last.2)
   rw [ovFold_snoc]
   generalize ovFold y n ini = s at *
   refine ⟨Nat.mod_lt _ hy, by simp [ovStep, h2], ?_⟩
   intro z hz
   rcases List.mem_or_eq_of_mem_set hz with h4 | h4
   · exact h3 z h4
   · subst h4
     rw [Nat.div_lt_iff_lt_mul hy]
     have := Nat.mul_le_mul_left 10000 (show s.1 + 1 ≤ y from h1)
     rw [Nat.mul_add] at this
     omega
theorem bw_over {x y : Nat} (hy : 0 < y) (k : Nat) (hk : k ≤ (digs 10000 x).length) :
 DivInv 10000 x y ((digs 10000 x).length - k) ((bwTo (digs 10000 x) k).foldl (ovStep y) (0, List.replicate (digs 10000 x).length 0)).1 ((bwTo (digs 10000 x) k).foldl (ovStep y) (0, List.replicate (digs 10000 x).length 0)).2 := by
 induction k with
 | zero => exact DivInv.start hy
 | succ k ih =>
   have ih := ih (by omega)
   rw [bwTo_succ, List.foldl_append, List.foldl_cons, List.foldl_nil]
   generalize (bwTo (digs 10000 x) k).foldl (ovStep y) (0, List.replicate (digs 10000 x).length 0) = s at *
   have hj : (digs 10000 x).length - 1 - k < (digs 10000 x).length := by omega
   have e1 : (digs 10000 x).length - k = (digs 10000 x).length - 1 - k + 1 := by omega
   have e2 : (digs 10000 x).length - (k + 1) = (digs 10000 x).length - 1 - k := by omega
   rw [e1] at ih
   rw [e2]
   have hg : (digs 10000 x).getD ((digs 10000 x).length - 1 - k) 0 = (digs 10000 x)[(digs 10000 x).length - 1 - k] := by simp [List.getD, List.getElem?_eq_getElem hj]
   have hR : s.1 < y := by obtain ⟨_, _, _, _, _, h⟩ := ih; exact h
   have hd : (digs 10000 x)[(digs 10000 x).length - 1 - k] < 10000 := digs_lt (by decide) x _ (List.getElem_mem hj)
   simp only [ovStep, hg]
   refine DivInv.step ih hj rfl ?_ (Nat.mod_lt _ hy) ?_
   · exact Nat.mod_add_div' _ _
   · rw [Nat.div_lt_iff_lt_mul hy]
     have := Nat.mul_le_mul_left 10000 (show s.1 + 1 ≤ y from hR)
     rw [Nat.mul_add] at this
     omega
end Go.Proofs.YtnfamgpjehohaaaGreatDoor
namespace Go.Proofs.YtnfamgpjehohaaaGreatDoor
open Go.RowKit Yk
attribute [local go_sem] Oper.semAt_some
def OvAt (w : World) (Z n : Nat) (mv : Value) (W X : World) (rv : Value) (ql : List Nat) (R : Nat) : Prop :=
 (Blk X w.heap.size #[mv] 142 ∧ Blk X (w.heap.size + 1) #[.slice (some ⟨w.heap.size + 3, 0, none⟩) n n] 142 ∧ Blk X (w.heap.size + 2) #[rv] 142 ∧
   OwnL encN 3 X (w.heap.size + 3) (.slice (some ⟨w.heap.size + 3, 0, none⟩) n n) ql ∧ Rd encN X rv (digs 10000 R) ∧ From (Z + 1) rv) ∧
 (w.heap.size + 4 ≤ Z ∧ Z + 1 ≤ X.heap.size ∧ Below w.heap.size w X) ∧ KeepsOthers W X ∧ KpB w.heap.size Z W X
section
variable {w W X : World} {Z n : Nat} {mv rv : Value} {ql : List Nat} {R : Nat}
theorem OvAt.start (h : OvAt w Z n mv W X rv ql R) : OvAt w Z n mv X X rv ql R := ⟨h.1, h.2.1, KeepsOthers.refl _, KpB.refl _ _ _⟩
theorem OvAt.grow {X' : World} (h : OvAt w Z n mv W X rv ql R) (hb : Below X.heap.size X X') : OvAt w Z n mv W X' rv ql R := by
 obtain ⟨⟨h1, h2, h3, h4, h5, h6⟩, ⟨h7, h8, h9⟩, h10, h11⟩ := h
 exact ⟨⟨h1.below hb (by omega), h2.below hb (by omega), h3.below hb (by omega), h4.belowTo hb, h5.below hb, h6⟩, ⟨h7, Nat.le_trans h8 hb.size, h9.trans (hb.mono (by omega))⟩, h10.trans (keepsOthers_of_below hb (Nat.le_refl _)), h11.trans (KpB.of_below hb (by omega) (by omega))⟩
theorem OvAt.alloc (h : OvAt w Z n mv W X rv ql R) (o : Obj) : OvAt w Z n mv W (X.alloc o) rv ql R := h.grow ((Below.refl _ X).alloc (Nat.le_refl _) _)
theorem OvAt.drew (h : OvAt w Z n mv W X rv ql R) : OvAt w Z n mv W X.drew rv ql R := h.grow (Below.refl _ X).drew
theorem OvAt.setR {rv' : Value} {R' : Nat} (h : OvAt w Z n mv W X rv ql R) (hr : Rd encN X rv' (digs 10000 R')) (hf : From (Z + 1) rv') : OvAt w Z n mv W (X.setCell ⟨w.heap.size + 2, 0, none⟩ rv') rv' ql R' := by
 obtain ⟨⟨h1, h2, h3, h4, h5, h6⟩, ⟨h7, h8, h9⟩, h10, h11⟩ := h
 exact ⟨⟨h1.setOther (by simp) _, h2.setOther (by simp) _, h3.set 0 _, h4.setOther (by simp) _, hr.setCell hf (by simp; omega) _, hf⟩, ⟨h7, by simpa [World.setCell] using h8, h9.setCell (by simp) _⟩, h10.trans (KeepsOthers.setCell _ _ _), h11.trans (KpB.setCell _ (by simp) (by simp; omega) _)⟩
theorem OvAt.setQ (h : OvAt w Z n mv W X rv ql R) (j d : Nat) (hj : j < ql.length) {u : Value} (hu : u = encN d) : OvAt w Z n mv W (X.setCell ⟨w.heap.size + 3, j, none⟩ u) rv (ql.set j d) R := by
 obtain ⟨⟨h1, h2, h3, h4, h5, h6⟩, ⟨h7, h8, h9⟩, h10, h11⟩ := h
 exact ⟨⟨h1.setOther (by simp) _, h2.setOther (by simp) _, h3.setOther (by simp) _, h4.set j hj d hu, h5.setCell h6 (by simp; omega) _, h6⟩, ⟨h7, by simpa [World.setCell] using h8, h9.setCell (by simp) _⟩, h10.trans (KeepsOthers.setCell _ _ _), h11.trans (KpB.setCell _ (by simp) (by simp; omega) _)⟩
theorem OvAt.keptBy {A B : World} {row : Option Nat} (h : OvAt w Z n mv A A rv ql R) (hg : A.grownBy B row) (hr : ∀ r, row = some r → ∃ o : Obj, A.heap[r]? = some o ∧ o.isCells = false) (hB : Below w.heap.size A B) : OvAt w Z n mv B B rv ql R := by
 obtain ⟨⟨h1, h2, h3, h4, h5, h6⟩, ⟨h7, h8, h9⟩, _, _⟩ := h
 exact ⟨⟨h1.kept hg hr, h2.kept hg hr, h3.kept hg hr, h4.kept hg hr, rd_kept h5 hg hr, h6⟩, ⟨h7, Nat.le_trans h8 hg.size, h9.trans hB⟩, KeepsOthers.refl _, KpB.refl _ _ _⟩
end
def OverInv {l : List Nat} (y n Z : Nat) (mv : Value) (w : World) (pre : List (Place l)) (W : World) : Prop :=
 ∃ rv, OvAt w Z n mv W W rv (ovFold y n pre).2 (ovFold y n pre).1
theorem wpIn_end {F : Fence} {n : Nat} {P : Program} {c : Code} {Q : Exit → Act → World → Prop} {a : Act} {w : World} (R : World → Prop)
 (h1 : c.wpIn F n P (fun e _ w' => e = .normal ∧ R w') a w) (h2 : ∀ a' w', R w' → Q .normal a' w') : c.wpIn F n P Q a w :=
 Code.wpIn_mono (fun e a' w' h => by obtain ⟨rfl, hr⟩ := h; exact h2 a' w' hr) h1
theorem wpIn_mid {F : Fence} {n : Nat} {P : Program} {c : Code} {K : Act → World → Prop} {Q : Exit → Act → World → Prop} {a : Act} {w : World} {A : Act} (R : World → Prop)
 (h1 : c.wpIn F n P (fun e a' w' => e = .normal ∧ a' = A ∧ R w') a w) (h2 : ∀ w', R w' → K A w') : c.wpIn F n P (Exit.then K Q) a w :=
 Code.wpIn_mono (fun e a' w' h => by obtain ⟨rfl, rfl, hr⟩ := h; exact h2 w' hr) h1
theorem search_quot {N y k : Nat} (hy : 0 < y) (hN : N < y * 10000) (h : k ≤ 9999 ∧ (∀ j, j < k → decide (N < y * (j + 1)) = false) ∧ (k < 9999 → decide (N < y * (k + 1)) = true)) : k = N / y := by
 obtain ⟨h1, h2, h3⟩ := h
 have h4 : N < y * (k + 1) := by
  by_cases hk : k < 9999
  · exact of_decide_eq_true (h3 hk)
  · obtain rfl : k = 9999 := by omega
    exact hN
 have h5 : y * k ≤ N := by
  cases k with
  | zero => simp
  | succ j => exact Nat.le_of_not_lt (of_decide_eq_false (h2 j (Nat.lt_succ_self j)))
 exact Nat.le_antisymm ((Nat.le_div_iff_mul_le hy).2 (by rw [Nat.mul_comm]; exact h5)) (Nat.le_of_lt_succ ((Nat.div_lt_iff_lt_mul hy).2 (by rw [Nat.mul_comm]; exact h4)))
theorem digs_len_shift (d R e : Nat) (hd : d < 10000) (hR : (digs 10000 R).length ≤ e) : (digs 10000 (d + 10000 * R)).length ≤ e + 1 := by
 have h3 := (digs_length_le (B := 10000) (by decide) R e).1 hR
 exact (digs_length_le (B := 10000) (by decide) _ (e + 1)).2 (by rw [Nat.pow_succ]; omega)
set_option maxRecDepth 100000 in
set_option maxHeartbeats 4000000 in
theorem numOver_any (x y : Nat) (hy0 : 0 < y) (va vb : Value) (w : World) (ha : Rd encN w va (digs 10000 x)) (hb : Rd encN w vb (digs 10000 y)) (hx : (digs 10000 x).length ≤ 400) (hy : (digs 10000 y).length ≤ 400) (hfa : ∀ k, va.ownBlock = some k → k < w.heap.size) :
 Calls Tryz.prog 133 #[va, vb] w fun e w' => ∃ v1 v2, e = .returned (.tuple #[v1, v2]) ∧ Rd encN w' v1 (digs 10000 (x / y)) ∧ Rd encN w' v2 (digs 10000 (x % y)) ∧ From w.heap.size v1 ∧ From w.heap.size v2 ∧ Below w.heap.size w w' := by
 obtain ⟨aa, ca, rfl, _⟩ := ha.open'
 obtain ⟨ab, cb, rfl, _⟩ := hb.open'
 have Ha := Lib.hid ha
 have Hb := Lib.hid hb
 obtain ⟨n, hn⟩ : ∃ n, (digs 10000 x).length = n := ⟨_, rfl⟩
 obtain ⟨m, hm⟩ : ∃ n, (digs 10000 y).length = n := ⟨_, rfl⟩
 have Hn := Lib.hid hn
 have Hm := Lib.hid hm
 rw [hn] at hx Ha hfa ⊢
 rw [hm] at hy Hb ⊢
 have Hfa := Lib.hid hfa
 clear hn hm ha hb hfa
 refine (callsIn_wide (n := 5)).1 ?_
 refine callsIn_of_wp_marks Tryz.func133 rfl trivial ?_ rfl
 simp only [Tryz.ntmps133, List.size_toArray, List.length_cons, List.length_nil, Nat.reduceAdd, Nat.reduceSub, Array.replicate_succ, Array.replicate_zero, List.push_toArray, List.append_toArray, List.nil_append, List.cons_append]
 have e3 : (((w.alloc (.cells #[.slice ab m cb] 142)).alloc (.cells #[.slice none 0 0] 142)).alloc (.cells #[.slice none 0 0] 142)).heap.size = w.heap.size + 3 := by simp
 gi_wp2_with (first
  | (gi_at_make; refine wpListIn_makeN (enc := encN) (e := 3) (B := w.heap.size + 3) rfl _ _ 142 rfl 0 8 Tryz.underlying142 infoInt rfl .i64 .i64 _ _ n rfl rfl rfl rfl (by omega) (by decide) (by simp) ?_; intro w1 hown1 hB1; rw [e3] at hown1 hB1; simp only [World.size_alloc]
     have hM1 := ((Blk.new w #[.slice ab m cb] 142).alloc (.cells #[.slice none 0 0] 142)).alloc (.cells #[.slice none 0 0] 142) |>.below hB1 (by omega)
     have hQ1 := (Blk.newAt (w.alloc (.cells #[.slice ab m cb] 142)) #[.slice none 0 0] 142 (b := w.heap.size + 1) (by simp)).alloc (.cells #[.slice none 0 0] 142) |>.below hB1 (by omega)
     have hR1 := (Blk.newAt ((w.alloc (.cells #[.slice ab m cb] 142)).alloc (.cells #[.slice none 0 0] 142)) #[.slice none 0 0] 142 (b := w.heap.size + 2) (by simp)) |>.below hB1 (by omega)
     have hBw1 : Below w.heap.size w w1 := ((((Below.refl _ w).alloc (Nat.le_refl _) _).alloc (by simp) _).alloc (by simp; omega) _).trans (hB1.mono (by omega))
     have q1 := hQ1.cell (i := 0) rfl
     have qf1 := hQ1.free 0)
  | (refine ⟨trivial, ?_⟩; gi_at_call 154; refine (callsIn_wide.2 (backward_any _ _ _ _)).mono ?_; rintro e w' ⟨rfl, rfl⟩))
 obtain ⟨W0, hW0⟩ : ∃ W0, (w1.setCell ⟨w.heap.size + 1, 0, none⟩ (.slice (some ⟨w.heap.size + 3, 0, none⟩) n n)) = W0 := ⟨_, rfl⟩
 have hM0 : Blk W0 w.heap.size #[.slice ab m cb] 142 := by subst hW0; exact hM1.setOther (by simp) _
 have hQ0 : Blk W0 (w.heap.size + 1) #[.slice (some ⟨w.heap.size + 3, 0, none⟩) n n] 142 := by subst hW0; exact hQ1.set 0 _
 have hR0 : Blk W0 (w.heap.size + 2) #[.slice none 0 0] 142 := by subst hW0; exact hR1.setOther (by simp) _
 have hB0 : Below w.heap.size w W0 := by subst hW0; exact hBw1.setCell (by simp) _
 have hown0 : OwnL encN 3 W0 (w.heap.size + 3) (.slice (some ⟨w.heap.size + 3, 0, none⟩) n n) (List.replicate n 0) := by subst hW0; exact hown1.setOther (by simp) _
 have hsz0 : W0.heap.size = w1.heap.size := by subst hW0; simp [World.setCell]
 have hlt0 : w.heap.size + 4 ≤ W0.heap.size := by obtain ⟨_, _, hlt, _⟩ := hown0.row; omega
 rw [hW0]; simp only [hsz0.symm]
 clear hW0 hsz0 q1 qf1 hM1 hQ1 hR1 hBw1 hown1 hB1 e3
 clear w1
 have hwsz : ∀ t : Value, (W0.alloc (.cells #[t] 142)).heap.size = W0.heap.size + 1 := fun t => by simp
 simp only [Nat.add_assoc, Nat.reduceAdd]
 refine wp_backward (by omega) W0.heap.size w.heap.size rfl (.slice aa n ca) (digs 10000 x) (by rw [Hn.out]; omega) (by simp) (by simp; have := hB0.size; omega) ((Blk.new W0 #[.slice aa n ca] 142).cell (i := 0) rfl) ((Ha.out.below hB0).below ((Below.refl _ W0).alloc (Nat.le_refl _) _)) Hfa.out rfl
  (fun pre W => OverInv y n W0.heap.size (.slice ab m cb) w pre W)
  (fun _ _ _ => False)
  ?own ?ownx ?start (fun p t => ((t.setIfInBounds 15 (.int .i64 (p.1.1 : Int))).setIfInBounds 16 (.int .i64 (p.1.2 : Int))).setIfInBounds 6 (.int .i64 (p.1.1 : Int)) |>.setIfInBounds 7 (.int .i64 (p.1.2 : Int))) ?assign ?body ?done ?stop
 case own =>
  intro s A B row hs hg hr
  obtain ⟨rv, h⟩ := hs
  refine ⟨rv, h.keptBy hg (fun r e => (hr r e).2) ((Below.refl _ A).grown hg h.2.1.2.2.size (fun k e => ?_))⟩
  have h1 := (hr k e).1
  have h2 := hB0.size
  rw [World.size_alloc] at h1; omega
 case ownx => exact fun _ _ _ _ _ hs _ _ => hs
 case start => exact ⟨_, ⟨⟨hM0.alloc _, hQ0.alloc _, hR0.alloc _, hown0.alloc _, .inl ⟨rfl, digs_zero 10000⟩, From.nil _⟩, ⟨hlt0, by simp, hB0.alloc hB0.size _⟩, KeepsOthers.refl _, KpB.refl _ _ _⟩⟩
 case assign =>
  intro l x W K hK
  simp only [List.setIfInBounds_toArray, List.set_cons_succ, List.set_cons_zero] at hK
  gi_wp2
  exact hK
 case body =>
  rintro l pre p W ⟨rv, hOv⟩ hlen
  simp only [List.setIfInBounds_toArray, List.set_cons_succ, List.set_cons_zero]
  obtain ⟨hRy, hql, hqd⟩ := ovFold_inv (y := y) (n := n) hy0 (fun z hz => digs_lt (by decide) x z hz) pre
  obtain ⟨⟨R, ql⟩, hF⟩ : ∃ F, ovFold y n pre = F := ⟨_, rfl⟩
  rw [hF] at hOv hRy hql hqd
  have HF := Lib.hid hF
  clear hF
  simp only at hOv hRy hql hqd
  rw [Hn.out] at hlen
  have hpd : p.1.2 < 10000 := digs_lt (by decide) x _ (List.mem_of_getElem? p.2)
  have hpi : p.1.1 < n := by have := (List.getElem?_eq_some_iff.1 p.2).1; rw [Hn.out] at this; exact this
  have hlR : (digs 10000 R).length ≤ 400 := by
   have h3 := (digs_length_le (B := 10000) (by decide) y m).1 (by rw [Hm.out]; exact Nat.le_refl _)
   have := (digs_length_le (B := 10000) (by decide) R m).2 (by omega)
   omega
  obtain ⟨av, cv, rfl, _⟩ := hOv.1.2.2.2.2.1.open'
  have HOv := Lib.hid hOv
  have r0 := hOv.1.2.2.1.cell (i := 0) rfl
  have rf0 := hOv.1.2.2.1.free 0
  have rl0 := hOv.1.2.2.1.lt
  have hds : ∀ z ∈ [p.1.2] ++ digs 10000 R, z < 10000 := by
   intro z hz
   rcases List.mem_append.1 hz with h | h
   · simp at h; omega
   · exact digs_lt (by decide) R z h
  have hvs : val 10000 ([p.1.2] ++ digs 10000 R) = p.1.2 + 10000 * R := by
   rw [List.singleton_append, val, val_digs (by decide)]
  have Hds := Lib.hid hds
  have Hvs := Lib.hid hvs
  clear hOv hds hvs
  gi_wp2_with (first
   | (gi_at_builtin; refine wpListIn_appRd (enc := encN) (e := 3) rfl _ _ 142 rfl (.int .i64 0) 8 Tryz.underlying142 infoInt rfl encN_one rfl (OwnL.lit1 W p.1.2 rfl) rfl (HOv.out.alloc _).1.2.2.2.2.1 (by simp; omega) (by decide) (by simp) ?_; intro v' w1 hown1 hB1 hk1
      have hO1 := Lib.hid (HOv.out.grow (((Below.refl _ W).alloc (Nat.le_refl _) _).trans hB1)))
   | (refine ⟨trivial, ?_⟩; gi_at_call 159; refine (CallsIn.inRound l (callsIn_wide.2 (trimmed_any _ Hds.out _ _ hown1.rd))).mono ?_; rintro e w2 ⟨v2, rfl, hr2, hf2, hb2⟩
      have hO2 := Lib.hid (hO1.out.grow hb2)
      have r2 := hO2.out.1.2.2.1.cell (i := 0) rfl
      have rf2 := hO2.out.1.2.2.1.free 0
      have m2 := hO2.out.1.1.cell (i := 0) rfl
      rw [Hvs.out] at hr2
      obtain ⟨a2, c2, rfl, _⟩ := hr2.open'))
  have hO3 := (hO2.out.setR hr2 (hf2 _ (hown1.from.mono HOv.out.2.1.2.1))).alloc (.cells #[.func (.func 160) #[.slice ab m cb] #[]] 168)
  have hby := Blk.newAt (w2.setCell ⟨w.heap.size + 2, 0, none⟩ (.slice a2 (digs 10000 (p.1.2 + 10000 * R)).length c2)) #[.func (.func 160) #[.slice ab m cb] #[]] 168 (b := w2.heap.size) (by simp [World.setCell])
  have hbb : w.heap.size + 4 ≤ w2.heap.size := by have := hO2.out.2.1; omega
  have hlN := digs_len_shift p.1.2 R 400 hpd hlR
  have hNy : p.1.2 + 10000 * R < y * 10000 := by omega
  generalize ((w2.setCell ⟨w.heap.size + 2, 0, none⟩ (.slice a2 (digs 10000 (p.1.2 + 10000 * R)).length c2)).alloc (.cells #[.func (.func 160) #[.slice ab m cb] #[]] 168)) = X2 at *
  obtain ⟨N, hN⟩ : ∃ N, p.1.2 + 10000 * R = N := ⟨_, rfl⟩
  rw [hN] at hO3 hlN hNy
  simp only [hN]
  have HN := Lib.hid hN
  have HO := Lib.hid hO3
  have hrl := Lib.hid hO3.2.1.2.1
  have Hby := Lib.hid hby
  obtain ⟨bb, hbbe⟩ : ∃ b, w2.heap.size = b := ⟨_, rfl⟩
  rw [hbbe] at hby Hby hbb
  simp only [hbbe]
  have hbl := hby.lt
  have qd := hO3.drew.1.2.1.cell (i := 0) rfl
  have hlenq : p.1.1 < ql.length := by omega
  clear hO3 hN hby hbbe r0 rf0 rl0 r2 rf2 m2 hO1 hO2 hr2 hf2 hown1 hB1 hk1 hb2
  have hse := Lib.hid (search_any 161 (.pointer (some ⟨bb, 0, none⟩)) (.pointer (some ⟨w.heap.size + 2, 0, none⟩)) (enters_of Tryz.func161 (by kernel_rfl) rfl) 9999 (fun i => decide (N < y * (i + 1))) X2.drew (by decide)
         (fun i W hi hW => over1_any y N i (.slice ab m cb) _ bb (w.heap.size + 2) W (Hb.out.below (HO.out.drew.grow hW).2.1.2.2) (HO.out.drew.grow hW).1.2.2.2.2.1 ((Blk.below (w := X2.drew) Hby.out hW hbl).cell rfl) (Nat.lt_of_lt_of_le hbl hW.size) ((HO.out.drew.grow hW).1.2.2.1.cell rfl) (HO.out.drew.grow hW).1.2.2.1.lt hi (by rw [Hm.out]; omega) (by omega))
         (fun i j hij h => by simp only [decide_eq_true_eq] at h ⊢; exact Nat.lt_of_lt_of_le h (Nat.mul_le_mul_left _ (by omega))))
  have hmx : Tryz.prog.follows .mixedOrders = true := by kernel_rfl
  obtain ⟨k0, hk0⟩ : ∃ k, N / y = k := ⟨_, rfl⟩
  have Hk0 := Lib.hid hk0
  clear hk0
  apply wpIn_mid (fun W' => ∃ w3, Below X2.drew.heap.size X2.drew w3 ∧ W' = w3.setCell ⟨w.heap.size + 3, p.1.1, none⟩ (.int .i64 (k0 : Int)))
  · gi_region_with_o (first
    | (refine ⟨trivial, ?_⟩; gi_at_call 162
       refine (CallsIn.inRound l (callsIn_wide.2 hse.out)).mono ?_
       rintro e w3 ⟨k, rfl, hk, hb3⟩
       obtain rfl : k0 = k := Hk0.out.symm.trans (search_quot hy0 hNy hk).symm
       have q3 := (HO.out.drew.grow hb3).1.2.1.cell (i := 0) rfl
       have e3 := (HO.out.drew.grow hb3).1.2.2.2.1.cell p.1.1 hlenq
       have f3 := (HO.out.drew.grow hb3).1.2.2.2.1.free p.1.1))
    all_goals exact ⟨rfl, rfl, _, hb3, rfl⟩
  · rintro w' ⟨w3, hb3, rfl⟩
    have HO4 := Lib.hid (((HO.out.drew.grow hb3).setQ p.1.1 k0 hlenq (u := .int .i64 (k0 : Int)) rfl).drew)
    have HB4 := Lib.hid ((Blk.below (w := X2.drew) Hby.out hb3 hbl).setOther (a := ⟨w.heap.size + 3, p.1.1, none⟩) (by simp; omega) (.int .i64 (k0 : Int)))
    have hk9 : k0 < 10000 := by rw [← Hk0.out]; exact (Nat.div_lt_iff_lt_mul hy0).2 (by rw [Nat.mul_comm]; exact hNy)
    have hle : y * k0 ≤ N := by rw [← Hk0.out]; exact Nat.mul_div_le N y
    have hlp : (digs 10000 (y * k0)).length ≤ 401 := by
     have h3 := (digs_length_le (B := 10000) (by decide) N 401).1 hlN
     exact (digs_length_le (B := 10000) (by decide) _ 401).2 (by omega)
    obtain ⟨X4, hX4⟩ : ∃ X, w3.setCell ⟨w.heap.size + 3, p.1.1, none⟩ (.int .i64 (k0 : Int)) = X := ⟨_, rfl⟩
    rw [hX4] at HO4 HB4
    rw [hX4]
    clear hX4 hb3 qd hse
    have r4 := HO4.out.1.2.2.1.cell (i := 0) rfl
    have q4 := HO4.out.1.2.1.cell (i := 0) rfl
    have b4 : X4.drew.cell? ⟨bb, 0, none⟩ = _ := HB4.out.cell (i := 0) rfl
    have e4 := HO4.out.1.2.2.2.1.cell p.1.1 (by simpa using hlenq)
    rw [List.getElem_set_self] at e4
    have hBy := Lib.hid (numBy_any y k0 hk9 _ X4.drew (Hb.out.below HO4.out.2.1.2.2) (by rw [Hm.out]; omega))
    have hMi : Hid (∀ w5 v5, Below X4.drew.heap.size X4.drew w5 → Rd encN w5 v5 (digs 10000 (y * k0)) → Calls Tryz.prog 136 #[.slice a2 (digs 10000 N).length c2, v5] w5 fun e w6 => ∃ a6 n6 c6, e = .returned (.slice a6 n6 c6) ∧ (Rd encN w6 (.slice a6 n6 c6) (digs 10000 (N - y * k0)) ∧ From w5.heap.size (.slice a6 n6 c6) ∧ Below w5.heap.size w5 w6) ∧ w6.cell? ⟨w.heap.size + 2, 0, none⟩ = some (.slice a2 (digs 10000 N).length c2) ∧ w6.frozen? ⟨w.heap.size + 2, 0, none⟩ = false) := by
     refine Lib.hid ?_
     intro w5 v5 hb5 hr5
     refine (numMinus_any N (y * k0) hle _ _ _ (HO4.out.grow hb5).1.2.2.2.2.1 hr5 (by omega) (by omega)).mono ?_
     rintro e w6 ⟨v6, rfl, hr6, hf6, hb6⟩
     have HO6 := ((HO4.out.grow hb5).grow hb6)
     obtain ⟨a6, c6, rfl, _⟩ := hr6.open'
     exact ⟨a6, _, c6, rfl, ⟨hr6, hf6, hb6⟩, HO6.1.2.2.1.cell (i := 0) rfl, HO6.1.2.2.1.free 0⟩
    have hR5 : Hid (∀ w5, Below X4.drew.heap.size X4.drew w5 → w5.cell? ⟨w.heap.size + 2, 0, none⟩ = some (.slice a2 (digs 10000 N).length c2)) := Lib.hid fun w5 hb5 => (HO4.out.grow hb5).1.2.2.1.cell (i := 0) rfl
    have hEnd : Hid (∀ w5 w6 v6, Below X4.drew.heap.size X4.drew w5 → (Rd encN w6 v6 (digs 10000 (N - y * k0)) ∧ From w5.heap.size v6 ∧ Below w5.heap.size w5 w6) → OvAt w W0.heap.size n (.slice ab m cb) W (w6.setCell ⟨w.heap.size + 2, 0, none⟩ v6) v6 (ql.set p.1.1 k0) (N - y * k0)) := by
     refine Lib.hid ?_
     rintro w5 w6 v6 hb5 ⟨hr6, hf6, hb6⟩
     exact ((HO4.out.grow hb5).grow hb6).setR hr6 (hf6.mono (Nat.le_trans HO4.out.2.1.2.1 hb5.size))
    have hS5 : Hid (∀ w5, Below X4.drew.heap.size X4.drew w5 → w5.cell? ⟨w.heap.size + 1, 0, none⟩ = some (.slice (some ⟨w.heap.size + 3, 0, none⟩) n n) ∧ w5.cell? ⟨bb, 0, none⟩ = some (.func (.func 160) #[.slice ab m cb] #[]) ∧ w5.cell? ⟨w.heap.size + 3, p.1.1, none⟩ = some (.int .i64 (k0 : Int))) := by
     refine Lib.hid ?_
     intro w5 hb5
     have e5 := (HO4.out.grow hb5).1.2.2.2.1.cell p.1.1 (by simpa using hlenq)
     rw [List.getElem_set_self] at e5
     exact ⟨(HO4.out.grow hb5).1.2.1.cell rfl, (Blk.below (w := X4.drew) HB4.out hb5 (Blk.lt HB4.out)).cell rfl, e5⟩
    have hS6 : Hid (∀ w5 w6 v6, Below X4.drew.heap.size X4.drew w5 → (Rd encN w6 v6 (digs 10000 (N - y * k0)) ∧ From w5.heap.size v6 ∧ Below w5.heap.size w5 w6) → (w6.setCell ⟨w.heap.size + 2, 0, none⟩ v6).cell? ⟨w.heap.size + 1, 0, none⟩ = some (.slice (some ⟨w.heap.size + 3, 0, none⟩) n n) ∧ (w6.setCell ⟨w.heap.size + 2, 0, none⟩ v6).cell? ⟨bb, 0, none⟩ = some (.func (.func 160) #[.slice ab m cb] #[]) ∧ (w6.setCell ⟨w.heap.size + 2, 0, none⟩ v6).cell? ⟨w.heap.size + 3, p.1.1, none⟩ = some (.int .i64 (k0 : Int))) := by
     refine Lib.hid ?_
     intro w5 w6 v6 hb5 h6
     have hO := hEnd.out w5 w6 v6 hb5 h6
     have e6 := hO.1.2.2.2.1.cell p.1.1 (by simpa using hlenq)
     rw [List.getElem_set_self] at e6
     exact ⟨hO.1.2.1.cell rfl, ((Blk.below (w := X4.drew) HB4.out (hb5.trans (h6.2.2.mono hb5.size)) (Blk.lt HB4.out)).setOther (a := ⟨w.heap.size + 2, 0, none⟩) (by simp; omega) v6).cell rfl, e6⟩
    have hRes : (N % y, ql.set p.1.1 (N / y)) = (N - y * k0, ql.set p.1.1 k0) := by rw [Nat.mod_eq_sub, Hk0.out]
    have hFin : Hid (ovFold y n (pre ++ [p]) = (N - y * k0, ql.set p.1.1 k0)) := by
     refine Lib.hid ?_
     rw [ovFold_snoc, HF.out]
     simp only [ovStep, HN.out]
     exact hRes
    clear hRes hlN hlp hle hk9 hNy hbb hbl hlR hpd hRy hqd hlt0 hwsz HO4 HB4 Hby HO hrl hlen Hds Hvs HF HN Hk0 hQ0 hR0 hM0 hown0 hB0
    gi_wp2
    refine wpIn_end (fun W' => ∃ v6, OvAt w W0.heap.size n (.slice ab m cb) W W' v6 (ql.set p.1.1 k0) (N - y * k0)) ?_ ?_
    · refine wpIn_region_round (fun w5 => w5.cell? ⟨w.heap.size + 1, 0, none⟩ = some (.slice (some ⟨w.heap.size + 3, 0, none⟩) n n) ∧ w5.cell? ⟨bb, 0, none⟩ = some (.func (.func 160) #[.slice ab m cb] #[]) ∧ w5.cell? ⟨w.heap.size + 3, p.1.1, none⟩ = some (.int .i64 (k0 : Int))) hmx (by kernel_rfl) (fun _ _ h => by cases h.1) ?_
      have hS := hS5.out X4.drew (Below.refl _ _)
      clear q4 b4 e4
      refine wpAnyH_take (i := 1) (v := .func (.func 160) #[.slice ab m cb] #[]) rfl (by kernel_rfl) (by kernel_rfl) (by kernel_rfl) (fun _ _ _ h => h) (Or.inl ⟨by rfl, by rintro W5 ⟨s1, s2, s3⟩; go_simp⟩) hS ?_
      refine wpAnyH_take (i := 2) (v := .slice (some ⟨w.heap.size + 3, 0, none⟩) n n) rfl (by kernel_rfl) (by kernel_rfl) (by kernel_rfl) (fun _ _ _ h => h) (Or.inl ⟨by rfl, by rintro W5 ⟨s1, s2, s3⟩; go_simp⟩) hS ?_
      refine wpAnyH_take (i := 3) (v := .int .i64 (p.1.1 : Int)) rfl (by kernel_rfl) (by kernel_rfl) (by kernel_rfl) (fun _ _ _ h => h) (Or.inl ⟨by rfl, by rintro W5 ⟨s1, s2, s3⟩; go_simp⟩) hS ?_
      refine wpAnyH_take (i := 4) (v := .pointer (some ⟨w.heap.size + 3, p.1.1, none⟩)) rfl (by kernel_rfl) (by kernel_rfl) (by kernel_rfl) (fun _ _ _ h => h) (Or.inl ⟨by rfl, by rintro W5 ⟨s1, s2, s3⟩; go_simp⟩) hS ?_
      refine wpAnyH_take (i := 5) (v := .int .i64 (k0 : Int)) rfl (by kernel_rfl) (by kernel_rfl) (by kernel_rfl) (fun _ _ _ h => h) (Or.inl ⟨by rfl, by rintro W5 ⟨s1, s2, s3⟩; go_simp⟩) hS ?_
      refine wpAnyH_ready (rs := [0, 6]) (by kernel_rfl) (by simp) (AllReadyH.cons rfl (fun K hK => ?_) (AllReadyH.cons rfl (fun K hK => ?_) AllReadyH.nil))
      · go_simp
        refine hK _ _ hS (fun _ => ?_); clear hK K
        refine wpAnyH_ready (rs := [6]) (by kernel_rfl) (by simp) (AllReadyH.cons rfl (fun K hK => ?_) AllReadyH.nil)
        go_simp
        (with_reducible refine (hBy.out).mono ?_); rintro e w5 ⟨v5, rfl, hr5, hf5, hb5⟩
        have hS := hS5.out w5 hb5
        have r5 := hR5.out w5 hb5
        refine hK _ _ hS (fun _ => ?_); clear hK K
        refine wpAnyH_ready (rs := [7]) (by kernel_rfl) (by simp) (AllReadyH.cons rfl (fun K hK => ?_) AllReadyH.nil)
        go_simp
        (with_reducible refine (hMi.out _ _ hb5 hr5).mono ?_); rintro e w6 ⟨a6, n6, c6, rfl, h6, r6, f6⟩
        have hS := hS5.out w6 (hb5.trans (h6.2.2.mono hb5.size))
        refine hK _ _ hS (fun _ => ?_); clear hK K
        refine wpAnyH_ready (rs := [8]) (by kernel_rfl) (by simp) (AllReadyH.cons rfl (fun K hK => ?_) AllReadyH.nil)
        go_simp
        refine hK _ _ (hS6.out _ _ _ hb5 h6) (fun _ => ?_); clear hK K
        refine wpAnyH_done (by kernel_rfl) ?_ _
        exact ⟨rfl, _, hEnd.out _ _ _ hb5 h6⟩
      · go_simp
        (with_reducible refine (hBy.out).mono ?_); rintro e w5 ⟨v5, rfl, hr5, hf5, hb5⟩
        have hS := hS5.out w5 hb5
        have r5 := hR5.out w5 hb5
        refine hK _ _ hS (fun _ => ?_); clear hK K
        refine wpAnyH_ready (rs := [0]) (by kernel_rfl) (by simp) (AllReadyH.cons rfl (fun K hK => ?_) AllReadyH.nil)
        go_simp
        refine hK _ _ hS (fun _ => ?_); clear hK K
        refine wpAnyH_ready (rs := [7]) (by kernel_rfl) (by simp) (AllReadyH.cons rfl (fun K hK => ?_) AllReadyH.nil)
        go_simp
        (with_reducible refine (hMi.out _ _ hb5 hr5).mono ?_); rintro e w6 ⟨a6, n6, c6, rfl, h6, r6, f6⟩
        have hS := hS5.out w6 (hb5.trans (h6.2.2.mono hb5.size))
        refine hK _ _ hS (fun _ => ?_); clear hK K
        refine wpAnyH_ready (rs := [8]) (by kernel_rfl) (by simp) (AllReadyH.cons rfl (fun K hK => ?_) AllReadyH.nil)
        go_simp
        refine hK _ _ (hS6.out _ _ _ hb5 h6) (fun _ => ?_); clear hK K
        refine wpAnyH_done (by kernel_rfl) ?_ _
        exact ⟨rfl, _, hEnd.out _ _ _ hb5 h6⟩
    · rintro a' w' ⟨v6, hO7⟩
      gi_wp2
      refine ⟨hO7.2.2.1.from _, hO7.2.2.2, v6, ?_⟩
      rw [hFin.out]
      exact hO7.start
 case done =>
  rintro D ys W hD hys ⟨rv, hOv⟩ hK
  have hbw := bw_over (x := x) hy0 (digs 10000 x).length (Nat.le_refl _)
  rw [← hys, Nat.sub_self] at hbw
  rw [Hn.out] at hbw
  obtain ⟨hq, hr⟩ := DivInv.done (R := (ovFold y n ys).1) (q := (ovFold y n ys).2) (by decide) hbw
  obtain ⟨_, hql, hqd⟩ := ovFold_inv (y := y) (n := n) hy0 (fun z hz => digs_lt (by decide) x z hz) ys
  generalize ovFold y n ys = F at *
  obtain ⟨R, ql⟩ := F
  simp only at hOv hq hr hql hqd
  subst hr
  have Hq := Lib.hid hq
  have Hqd := Lib.hid hqd
  have HK := Lib.hid hK
  have HOv := Lib.hid hOv
  obtain ⟨ra, rc, rfl, _⟩ := hOv.1.2.2.2.2.1.open'
  have q9 := hOv.drew.1.2.1.cell (i := 0) rfl
  have r9 := hOv.drew.1.2.2.1.cell (i := 0) rfl
  clear hq hqd hK hOv hbw hys
  have hmx : Tryz.prog.follows .mixedOrders = true := by kernel_rfl
  gi_wp2
  gi_region_with_o (refine ⟨trivial, ?_⟩; gi_at_call 159; refine (callsIn_wide.2 (trimmed_any ql Hqd.out _ _ HOv.out.drew.1.2.2.2.1.rd)).mono ?_
                    rintro e w2 ⟨v2, rfl, hr2, hf2, hb2⟩
                    have HO2 := Lib.hid (HOv.out.drew.grow hb2)
                    rw [Hq.out] at hr2
                    have q2 := HO2.out.1.2.1.cell (i := 0) rfl
                    have qf2 := HO2.out.1.2.1.free 0
                    have r2 := HO2.out.1.2.2.1.cell (i := 0) rfl
                    have rf2 := HO2.out.1.2.2.1.free 0
                    obtain ⟨qa, qc, rfl, _⟩ := hr2.open')
  all_goals gi_wp2
  all_goals
   have hQ8 := (HO2.out.1.2.1.set 0 (.slice qa (digs 10000 (x / y)).length qc)).setOther (a := ⟨w.heap.size + 2, 0, none⟩) (by simp) (.slice ra (digs 10000 (x % y)).length rc)
   have hR8 := (HO2.out.1.2.2.1.setOther (a := ⟨w.heap.size + 1, 0, none⟩) (by simp) (.slice qa (digs 10000 (x / y)).length qc)).set 0 (.slice ra (digs 10000 (x % y)).length rc)
   have hfq : From (w.heap.size + 3) (.slice qa (digs 10000 (x / y)).length qc) := hf2 _ (fun k hk => by cases hk; exact Nat.le_refl _)
   have hfr := HO2.out.1.2.2.2.2.2
   have hZ := HO2.out.2.1
   have hq8 := (hr2.setCell (a := ⟨w.heap.size + 1, 0, none⟩) hfq (by simp) (.slice qa (digs 10000 (x / y)).length qc)).setCell (a := ⟨w.heap.size + 2, 0, none⟩) hfq (by simp) (.slice ra (digs 10000 (x % y)).length rc)
   have hr8 := (HO2.out.1.2.2.2.2.1.setCell (a := ⟨w.heap.size + 1, 0, none⟩) hfr (by simp; omega) (.slice qa (digs 10000 (x / y)).length qc)).setCell (a := ⟨w.heap.size + 2, 0, none⟩) hfr (by simp; omega) (.slice ra (digs 10000 (x % y)).length rc)
   have hB8 : Below w.heap.size w ((w2.setCell ⟨w.heap.size + 1, 0, none⟩ (.slice qa (digs 10000 (x / y)).length qc)).setCell ⟨w.heap.size + 2, 0, none⟩ (.slice ra (digs 10000 (x % y)).length rc)) := (hZ.2.2.setCell (by simp) _).setCell (by simp) _
   have hDW : w.heap.size + 4 ≤ D := by rw [World.size_alloc] at hD; omega
   have hK8 : ((w2.setCell ⟨w.heap.size + 1, 0, none⟩ (.slice qa (digs 10000 (x / y)).length qc)).setCell ⟨w.heap.size + 2, 0, none⟩ (.slice ra (digs 10000 (x % y)).length rc)).heap[D]? = some (.deferred (some [])) := by
    rw [Below.heap_setCell _ _ _ _ (by simp; omega), Below.heap_setCell _ _ _ _ (by simp; omega)]
    exact (hb2.block D (Array.getElem?_eq_some_iff.1 HK.out).1).trans HK.out
   generalize ((w2.setCell ⟨w.heap.size + 1, 0, none⟩ (.slice qa (digs 10000 (x / y)).length qc)).setCell ⟨w.heap.size + 2, 0, none⟩ (.slice ra (digs 10000 (x % y)).length rc)) = W9 at *
   refine ⟨by simp, .inl ⟨_, _, rfl, run_takeDeferred hK8, ?_⟩⟩
   have hg := grownBy_putObj' W9 D (.deferred none)
   have hgr : ∀ r, some D = some r → ∃ o : Obj, W9.heap[r]? = some o ∧ o.isCells = false := fun r e => by cases e; exact ⟨_, hK8, rfl⟩
   have c1 : (W9.putObj D (.deferred none)).cell? ⟨w.heap.size + 1, 0, none⟩ = some (.slice qa (digs 10000 (x / y)).length qc) := (hQ8.kept hg hgr).cell rfl
   have c2 : (W9.putObj D (.deferred none)).cell? ⟨w.heap.size + 2, 0, none⟩ = some (.slice ra (digs 10000 (x % y)).length rc) := (hR8.kept hg hgr).cell rfl
   refine ⟨.tuple #[.slice qa (digs 10000 (x / y)).length qc, .slice ra (digs 10000 (x % y)).length rc], ?_, _, _, rfl, rd_kept hq8 hg hgr, rd_kept hr8 hg hgr, hfq.mono (by omega), hfr.mono (by omega), hB8.trans (belowK_b (w := w) (Nat.le_refl _) W9 D _ _ (by omega) hK8 rfl rfl)⟩
   simp [results, Tryz.f133, go_sem, c1, c2]
 case stop => exact fun _ _ _ _ _ _ hx _ => hx.elim
theorem repeatL_one (c : UInt8) : ∀ n, Lib.repeatL [c] n = List.replicate n c := by
 intro n
 induction n with
 | zero => rfl
 | succ n ih => rw [List.replicate_succ, ← ih]; rfl
theorem infoBuilder : (Tryz.prog.info? 124).map (·.size) = some 2 := by kernel_rfl
theorem liesBuilder : liesAt Tryz.prog Tryz.prog.depth 124 (2 / Tryz.prog.cellsOf 124) 0 124 1 = true := by kernel_rfl
theorem infoByte8 : (Tryz.prog.info? 5).map (fun i => (i.zero, i.size, i.bytes)) = some (some (.int .u8 0), 1, 1) := by kernel_rfl
set_option maxRecDepth 100000 in
set_option maxHeartbeats 1000000 in
theorem copyCheck_used (b : Nat) (w : World) (h0 : w.cell? ⟨b, 0, none⟩ = some (.pointer (some ⟨b, 0, none⟩))) :
 Calls Tryz.prog 142 #[.pointer (some ⟨b, 0, none⟩)] w fun e w' => e = .returned (.tuple #[]) ∧ w' = w := by
 obtain ⟨j, hj, _⟩ := Option.map_eq_some_iff.1 infoBuilder
 go_enter Tryz.func142, Tryz.ntmps142
 go_wp2
 rw [Lib.run_neq_ptr_same w _ Tryz.underlying122 hj]
 go_wp2
 go_end0
 exact ⟨rfl, rfl⟩
set_option maxRecDepth 100000 in
set_option maxHeartbeats 1000000 in
theorem copyCheck_fresh (b : Nat) (w : World) (h0 : w.cell? ⟨b, 0, none⟩ = some (.pointer none)) (hsh : w.shape? b = some (124, 2)) (hfz : w.frozen? ⟨b, 0, none⟩ = false) :
 Calls Tryz.prog 142 #[.pointer (some ⟨b, 0, none⟩)] w fun e w' => e = .returned (.tuple #[]) ∧ w' = w.setCell ⟨b, 0, none⟩ (.pointer (some ⟨b, 0, none⟩)) := by
 obtain ⟨j, hj, hjs⟩ := Option.map_eq_some_iff.1 infoBuilder
 go_enter Tryz.func142, Tryz.ntmps142
 go_wp2
 rw [Lib.run_to_unsafe w ⟨b, 0, none⟩ Tryz.underlying122 Tryz.underlying178 hj (by rw [hjs]; decide) hsh (Nat.zero_lt_succ 1)]
 simp only [Result.andThen]
 rw [Oper.upon_value]
 go_wp2
 rw [run_callFunc_extern Tryz.func171 (by kernel_rfl) (by kernel_rfl) (by kernel_rfl) (e := Extern.AbiNoEscape.same) (by kernel_rfl)]
 rw [Lib.run_noEscape]
 simp only [Result.andThen]
 rw [Oper.upon_value]
 go_wp2
 rw [Lib.run_from_unsafe w ⟨b, 0, none⟩ Tryz.underlying178 Tryz.underlying122 hj hsh liesBuilder]
 simp only [Result.andThen]
 rw [Oper.upon_value]
 go_wp2
 go_end0
 exact ⟨rfl, rfl⟩
theorem copyCheck_any (B b : Nat) (bs : List Value) (w : World) (h : Lib.IsBuilderF 124 5 B b bs w) :
 Calls Tryz.prog 142 #[.pointer (some ⟨b, 0, none⟩)] w fun e w' => e = .returned (.tuple #[]) ∧ Lib.BuilderAtF 124 5 B b (.pointer (some ⟨b, 0, none⟩)) bs w' ∧ Below B w w' ∧ Lib.OthersKept 5 (some b) w w' := by
 rcases h with h | h
 · refine (copyCheck_fresh b w h.cell0 h.shape h.frozen0).mono ?_
   rintro e w' ⟨rfl, rfl⟩
   exact ⟨rfl, h.used _, (Below.refl B w).setCell (p := ⟨b, 0, none⟩) h.1 _, (Lib.OthersKept.refl _ _ w).setCell ⟨b, 0, none⟩ rfl _⟩
 · refine (copyCheck_used b w h.cell0).mono ?_
   rintro e w' ⟨rfl, rfl⟩
   exact ⟨rfl, h, Below.refl B _, Lib.OthersKept.refl _ _ _⟩
set_option maxRecDepth 100000 in
set_option maxHeartbeats 2000000 in
theorem writeString_any (B b : Nat) (bs : List Value) (s : ByteArray) (w : World) (h : Lib.IsBuilderF 124 5 B b bs w) (hlen : bs.length + s.size ≤ 1099511627776) (hBw : B ≤ w.heap.size) :
 Calls Tryz.prog 115 #[.pointer (some ⟨b, 0, none⟩), .string s] w fun e w' => e = .returned (.tuple #[.int .i64 s.size, .nilIface]) ∧ Lib.IsBuilderF 124 5 B b (bs ++ Lib.strCells s) w' ∧ Below B w w' ∧ Lib.OthersKept 5 (some b) w w' := by
 obtain ⟨i0, hi, hz0, hz1, hz2⟩ := info_parts infoByte8
 go_enter Tryz.func115, Tryz.ntmps115
 go_wp2_with (go_at_call 142; refine (copyCheck_any B b bs _ h).mono ?_)
 rintro e w1 ⟨rfl, h1, hb1, hk1⟩
 obtain ⟨hB, v, hbk, hown, hne⟩ := h1
 have c0 : w1.cell? ⟨b, 0, none⟩ = some (.pointer (some ⟨b, 0, none⟩)) := by rw [Lib.cell_of_heap hbk]; rfl
 have c1 : w1.cell? ⟨b, 1, none⟩ = some v := by rw [Lib.cell_of_heap hbk]; rfl
 go_wp2_with (at_builtin; refine Lib.wpList_append_own_stringF _ rfl _ _ 51 9 rfl B 5 i0 Tryz.underlying51 Tryz.underlying9 hi hz0 hz1 hz2 _ _ _ rfl hown s rfl ?c3 ?c4 ?c5 ?_)
 case c3 => unfold maxLen; omega
 case c4 => omega
 case c5 => have := hb1.size; omega
 intro v' w2 hown' hgrow _
 have hlt : b < w1.heap.size := (Array.getElem?_eq_some_iff.1 hbk).1
 have hb2 : w2.heap[b]? = some (.cells #[.pointer (some ⟨b, 0, none⟩), v] 124 (0, 0)) := by
  rw [hgrow.block b hlt (fun e => hne e.symm)]
  exact hbk
 have d0 : w2.cell? ⟨b, 0, none⟩ = some (.pointer (some ⟨b, 0, none⟩)) := by rw [Lib.cell_of_heap hb2]; rfl
 have d1 : w2.cell? ⟨b, 1, none⟩ = some v := by rw [Lib.cell_of_heap hb2]; rfl
 have f1 : w2.frozen? ⟨b, 1, none⟩ = false := Lib.frozen_of_heap hb2 1
 obtain ⟨ao, n', cap, rfl⟩ : ∃ ao n' cap, v' = .slice ao n' cap := by
  rcases hown'.2 with ⟨hv, _⟩ | ⟨g, cap, cur, fz, hv, _⟩
  · exact ⟨_, _, _, hv⟩
  · exact ⟨_, _, _, hv⟩
 go_wp2
 go_ret2
 refine ⟨rfl, .inr ?_, ?_, (hk1.grown hgrow (Lib.ownsRowF_kind hown)).setCell ⟨b, 1, none⟩ rfl _⟩
 · exact Lib.BuilderAtF.put (T := 124) (e := 5) hB hb2 (bs' := bs ++ Lib.strCells s) (by simpa [Lib.strCells_length] using hown') (by decide)
 · exact (hb1.grown hgrow (by have := hb1.size; omega) (fun k hk => (hown.lt k hk).1)).setCell (p := ⟨b, 1, none⟩) hB _
attribute [local go_sem] Oper.semAt_some
def txStep (n : Nat) (acc : List UInt8) (p : Nat × Nat) : List UInt8 := acc ++ (if p.1 < n - 1 then pad4 p.2 else Lib.decDigits p.2)
def txFold {l : List Nat} (n : Nat) (pre : List (Place l)) : List UInt8 := (pre.map (·.1)).foldl (txStep n) []
theorem txFold_snoc {l : List Nat} (n : Nat) (pre : List (Place l)) (p : Place l) : txFold n (pre ++ [p]) = txStep n (txFold n pre) p.1 := by
 unfold txFold; rw [List.map_append, List.foldl_append]; rfl
theorem pad4_len {d : Nat} (hd : d < 10000) : (pad4 d).length = 4 := by
 have := decDigits_len_group hd
 unfold pad4
 rw [List.length_append, List.length_replicate]; omega
theorem txFold_len {l : List Nat} {n : Nat} (hl : ∀ z ∈ l, z < 10000) (pre : List (Place l)) : (txFold n pre).length ≤ 4 * pre.length := by
 induction h : pre.length generalizing pre with
 | zero => rw [List.eq_nil_of_length_eq_zero h]; simp [txFold]
 | succ k ih =>
   obtain ⟨ini, last, rfl⟩ : ∃ ini last, pre = ini ++ [last] := ⟨pre.dropLast, pre.getLast (by intro e; rw [e] at h; simp at h), (List.dropLast_concat_getLast _).symm⟩
   have h1 := ih ini (by simp at h; omega)
   have hp : last.1.2 < 10000 := hl _ (List.mem_of_getElem? last.2)
   have h2 := pad4_len hp
   have h3 := decDigits_len_group hp
   rw [txFold_snoc, txStep, List.length_append]
   split <;> omega
theorem txFold_end {x : Nat} (hx : x ≠ 0) {ys : List (Place (digs 10000 x))} (h : ys.map (·.1) = bwTo (digs 10000 x) (digs 10000 x).length) : txFold (digs 10000 x).length ys = Lib.decDigits x := by
 have key : ∀ k, k ≤ (digs 10000 x).length → (bwTo (digs 10000 x) k).foldl (txStep (digs 10000 x).length) [] = topT (digs 10000 x) k := by
  intro k hk
  induction k with
  | zero => simp [bwTo, topT]
  | succ k ih =>
    rw [bwTo_succ, List.foldl_append, ih (by omega), List.foldl_cons, List.foldl_nil, txStep]
    have hj : (digs 10000 x).length - 1 - k < (digs 10000 x).length := by omega
    have e : (digs 10000 x).getD ((digs 10000 x).length - 1 - k) 0 = (digs 10000 x)[(digs 10000 x).length - 1 - k] := by
     rw [List.getD_eq_getElem?_getD, List.getElem?_eq_getElem hj]; rfl
    simp only [e]
    by_cases h0 : k = 0
    · subst h0
      rw [if_neg (by omega)]
      simp only [Nat.sub_zero]
      exact (topT_first (by omega)).symm
    · rw [if_pos (by omega)]
      exact (topT_next (digs_last (by decide) x) (digs_lt (by decide) x) (by omega) (by omega)).symm
 unfold txFold
 rw [h, key _ (Nat.le_refl _), topT_end hx]
theorem libItoa4 (n : Nat) (w : World) (hg : Glob w) (hn : n < 10000) : Calls Tryz.prog 75 #[.int .i64 (n : Int)] w fun e w' => e = .returned (.string ⟨(Lib.decDigits n).toArray⟩) ∧ Below w.heap.size w w' := by
 refine (Tryz.strconv_Itoa (n : Int) (by omega) (by omega) w hg.2.1).mono ?_
 rintro e w' ⟨rfl, k, os, rfl⟩
 refine ⟨by rw [itoa_pos (by omega)]; rfl, ?_⟩
 exact ⟨rfl, rfl, rfl, by simp [Go.Sort.grow], fun b hb => by simp [Go.Sort.grow, Array.getElem?_append, hb]⟩
theorem libRepeat0 (c : Int) (w : World) (h0 : 0 ≤ c) (h4 : c ≤ 1000) : Calls Tryz.prog 155 #[.string ⟨#[48]⟩, .int .i64 c] w fun e w' => e = .returned (.string ⟨(List.replicate c.toNat 48).toArray⟩) ∧ Below w.heap.size w w' := by
 obtain ⟨n, rfl⟩ := Int.eq_ofNat_of_zero_le h0
 refine (Tryz.strings_Repeat ⟨#[48]⟩ n w (by omega) (by show 1 * n ≤ _; omega)).mono ?_
 rintro e w' ⟨rfl, hb⟩
 exact ⟨by rw [show (⟨#[48]⟩ : ByteArray).data.toList = [48] from rfl, repeatL_one]; rfl, hb⟩
theorem strCells_byte (t : ByteArray) : Lib.strCells t = Lib.byteCells t.data.toList := by rw [Lib.strCells_eq]
theorem chkI_pos {x : Nat} {t : ByteArray} (h : x < BIG) (ht : (⟨(Lib.decDigits x).toArray⟩ : ByteArray) = t) : chkI (sgn false x) = (t, 0) := by
 unfold chkI
 rw [if_pos (by rw [sgn_abs]; exact h), ← ht]
 unfold ofI sgn
 rw [if_neg (by decide), itoa_pos (by omega)]; rfl
theorem chkI_neg {x : Nat} {t : ByteArray} (h : x < BIG) (h0 : x ≠ 0) (ht : (⟨(Lib.decDigits x).toArray⟩ : ByteArray) = t) : chkI (sgn true x) = ((⟨#[45]⟩ ++ t : ByteArray), 0) := by
 unfold chkI
 rw [if_pos (by rw [sgn_abs]; exact h), ← ht]
 unfold ofI sgn
 rw [if_pos rfl, itoa_neg (by omega), Int.natAbs_neg, Int.natAbs_natCast]
 congr 1
theorem chkI_big {x : Nat} (neg : Bool) (h : ¬ x < BIG) : chkI (sgn neg x) = (⟨#[]⟩, 30) := by
 unfold chkI
 rw [if_neg (by rw [sgn_abs]; exact h)]; rfl
def TxInv {l : List Nat} (n : Nat) (st : Value) (sv : Value) (w : World) (pre : List (Place l)) (W : World) : Prop :=
 (Lib.IsBuilderF 124 5 (w.heap.size + 1) (w.heap.size + 1) (Lib.byteCells (txFold n pre)) W ∧ Blk W w.heap.size #[st, sv] 144 ∧ Blk W (w.heap.size + 1 + 1) #[sv] 142) ∧ Below w.heap.size w W
set_option maxRecDepth 100000 in
set_option maxHeartbeats 4000000 in
theorem text_pos (neg : Bool) (x : Nat) (hx0 : x ≠ 0) (aa : Option Addr) (ca : Nat) (w : World) (hv : Rd encN w (.slice aa (digs 10000 x).length ca) (digs 10000 x)) (hg : Glob w) (hx : (digs 10000 x).length ≤ 1000) :
 Calls Tryz.prog 129 #[.agg #[.bool neg, .slice aa (digs 10000 x).length ca]] w fun e w' => e = .returned (.tuple #[.string (chkI (sgn neg x)).1, .int .i64 (chkI (sgn neg x)).2]) ∧ Below w.heap.size w w' := by
 have Ha := Lib.hid hv
 obtain ⟨n, hn⟩ : ∃ n, (digs 10000 x).length = n := ⟨_, rfl⟩
 have Hn := Lib.hid hn
 rw [hn] at hx Ha ⊢
 have hn0 : n ≠ 0 := by
  intro e; apply hx0
  exact (digs_eq_nil (B := 10000) (by decide)).1 (List.eq_nil_of_length_eq_zero (hn.trans e))
 have c0 : ((n : Int) == 0) = false := by rw [beq_eq_false_iff_ne]; omega
 clear hn hv hx0
 have Hg := Lib.hid hg
 clear hg
 refine (callsIn_wide (n := 5)).1 ?_
 refine callsIn_of_wp_marks Tryz.func129 rfl trivial ?_ rfl
 simp only [Tryz.ntmps129, List.size_toArray, List.length_cons, List.length_nil, Nat.reduceAdd, Nat.reduceSub, Array.replicate_succ, Array.replicate_zero, List.push_toArray, List.append_toArray, List.nil_append, List.cons_append]
 gi_wp2_with (first
  | (refine ⟨trivial, ?_⟩; gi_at_call 154; refine (callsIn_wide.2 (backward_any _ _ _ _)).mono ?_; rintro e w' ⟨rfl, rfl⟩))
 have hS0 : Blk (((w.alloc (.cells #[.bool neg, .slice aa n ca] 144)).alloc (.cells #[.pointer none, .slice none 0 0] 124)).alloc (.cells #[.slice aa n ca] 142)) w.heap.size #[.bool neg, .slice aa n ca] 144 := ((Blk.new w _ _).alloc _).alloc _
 have hU0 : Lib.IsBuilderF 124 5 (w.heap.size + 1) (w.heap.size + 1) (Lib.byteCells []) (((w.alloc (.cells #[.bool neg, .slice aa n ca] 144)).alloc (.cells #[.pointer none, .slice none 0 0] 124)).alloc (.cells #[.slice aa n ca] 142)) := by
  have h1 := Lib.IsBuilderF.of (Lib.fresh_isBuilder 124 5 (w.alloc (.cells #[.bool neg, .slice aa n ca] 144)))
  rw [World.size_alloc] at h1
  exact h1.alloc _
 have hX0 : Blk (((w.alloc (.cells #[.bool neg, .slice aa n ca] 144)).alloc (.cells #[.pointer none, .slice none 0 0] 124)).alloc (.cells #[.slice aa n ca] 142)) (w.heap.size + 1 + 1) #[.slice aa n ca] 142 := Blk.newAt _ _ _ (by simp)
 have hB0 : Below w.heap.size w (((w.alloc (.cells #[.bool neg, .slice aa n ca] 144)).alloc (.cells #[.pointer none, .slice none 0 0] 124)).alloc (.cells #[.slice aa n ca] 142)) := (((Below.refl _ w).alloc (Nat.le_refl _) _).alloc (by simp) _).alloc (by simp; omega) _
 have hsz : w.heap.size + 1 + 1 + 1 = (((w.alloc (.cells #[.bool neg, .slice aa n ca] 144)).alloc (.cells #[.pointer none, .slice none 0 0] 124)).alloc (.cells #[.slice aa n ca] 142)).heap.size := by simp
 generalize (((w.alloc (.cells #[.bool neg, .slice aa n ca] 144)).alloc (.cells #[.pointer none, .slice none 0 0] 124)).alloc (.cells #[.slice aa n ca] 142)) = W0 at *
 refine wp_backward (by omega) (w.heap.size + 1 + 1) w.heap.size rfl (.slice aa n ca) (digs 10000 x) (by rw [Hn.out]; omega) hX0.lt (by omega) (hX0.cell rfl) ?rd ?fr rfl
  (fun pre W => TxInv n (.bool neg) (.slice aa n ca) w pre W)
  (fun _ _ _ => False)
  ?own ?ownx ?start (fun p t => (((t.setIfInBounds 16 (.int .i64 (p.1.1 : Int))).setIfInBounds 17 (.int .i64 (p.1.2 : Int))).setIfInBounds 5 (.int .i64 (p.1.1 : Int))).setIfInBounds 6 (.int .i64 (p.1.2 : Int))) ?assign ?body ?done ?stop
 case rd => exact Ha.out.below hB0
 case fr =>
  intro k hk
  rcases Ha.out with ⟨h, _⟩ | ⟨b, off, cap, h, hb, _⟩
  · cases h; cases hk
  · cases h; cases hk; exact hb
 case own => exact OwnFrom.and (Own.from (fun s A B row hs hg hr => ⟨isBuilderF_kept hs.1 hg hr, hs.2.1.kept hg hr, hs.2.2.kept hg hr⟩) _) (ownFrom_below (Nat.le_refl _) (by omega))
 case ownx => exact fun _ _ _ _ _ hs _ _ => hs
 case start => exact ⟨⟨by simpa [txFold] using hU0, hS0, hX0⟩, hB0⟩
 case assign =>
  intro l x W K hK
  simp only [List.setIfInBounds_toArray, List.set_cons_succ, List.set_cons_zero] at hK
  gi_wp2
  exact hK
 case body =>
  rintro l pre p W ⟨⟨hU, hS, hX⟩, hB⟩ hlen
  simp only [List.setIfInBounds_toArray, List.set_cons_succ, List.set_cons_zero]
  have hpd : p.1.2 < 10000 := digs_lt (by decide) x _ (List.mem_of_getElem? p.2)
  have hpi : p.1.1 < n := by have := (List.getElem?_eq_some_iff.1 p.2).1; rw [Hn.out] at this; exact this
  have HtL := txFold_len (n := n) (digs_lt (by decide) x) pre
  rw [Hn.out] at hlen
  have HS := Lib.hid hS
  have HU := Lib.hid hU
  have s1 : W.cell? ⟨w.heap.size, 1, none⟩ = some (.slice aa n ca) := hS.cell rfl
  have hgW := Lib.hid (Hg.out.below hB)
  have hdl := decDigits_len_group hpd
  have HX := Lib.hid hX
  clear hS hU hX
  have hEnd : Hid (∀ W1 W2 (t : ByteArray), Below W.heap.size W W1 → t.data.toList = (if p.1.1 < n - 1 then pad4 p.1.2 else Lib.decDigits p.1.2) → (Lib.IsBuilderF 124 5 (w.heap.size + 1) (w.heap.size + 1) (Lib.byteCells (txFold n pre) ++ Lib.strCells t) W2 ∧ Below (w.heap.size + 1) W1 W2 ∧ Lib.OthersKept 5 (some (w.heap.size + 1)) W1 W2) → KeepsOthers W W2 ∧ KpB w.heap.size (w.heap.size + 1 + 1) W W2 ∧ TxInv n (.bool neg) (.slice aa n ca) w (pre ++ [p]) W2) := by
   refine Lib.hid ?_
   rintro W1 W2 t hb1 ht ⟨h1, h2, h3⟩
   have hS1 := HS.out.below hb1 HS.out.lt
   have hX1 := HX.out.below hb1 HX.out.lt
   have hU1 := isBuilderF_below HU.out hb1
   have hS2 : Blk W2 w.heap.size #[.bool neg, .slice aa n ca] 144 := h3 _ _ hS1 (by simp) (by intro c fz e; injection e with e1 e2; exact absurd e2 (by decide))
   have hX2 : Blk W2 (w.heap.size + 1 + 1) #[.slice aa n ca] 142 := h3 _ _ hX1 (by simp) (by intro c fz e; injection e with e1 e2; exact absurd e2 (by decide))
   refine ⟨(keepsOthers_of_below hb1 (Nat.le_refl _)).trans (keepsOthers_of_othersKept h3 (isBuilderF_cells hU1) h2.size), ⟨(hb1.mono (by have := HX.out.lt; omega)).trans (h2.mono (by omega)), ?_⟩, ⟨?_, hS2, hX2⟩, hB.trans ((hb1.mono (by have := HX.out.lt; omega)).trans (h2.mono (by omega)))⟩
   · rw [show W2.heap[w.heap.size + 1 + 1]? = _ from hX2, show W.heap[w.heap.size + 1 + 1]? = _ from HX.out]
   · rw [txFold_snoc, txStep, ← ht, Lib.byteCells_append, ← strCells_byte]; exact h1
  have hWr : Hid (∀ W1 (t : ByteArray), Below W.heap.size W W1 → t.size ≤ 4 → Calls Tryz.prog 115 #[.pointer (some ⟨w.heap.size + 1, 0, none⟩), .string t] W1 fun e w' => e = .returned (.tuple #[.int .i64 t.size, .nilIface]) ∧ Lib.IsBuilderF 124 5 (w.heap.size + 1) (w.heap.size + 1) (Lib.byteCells (txFold n pre) ++ Lib.strCells t) w' ∧ Below (w.heap.size + 1) W1 w' ∧ Lib.OthersKept 5 (some (w.heap.size + 1)) W1 w') := by
   refine Lib.hid ?_
   intro W1 t hb1 ht
   exact writeString_any _ _ _ t W1 (isBuilderF_below HU.out hb1) (by rw [Lib.byteCells_length]; omega) (by have h1 := hb1.size; have h2 := HX.out.lt; omega)
  have hdl2 : (⟨(Lib.decDigits p.1.2).toArray⟩ : ByteArray).size = (Lib.decDigits p.1.2).length := by rw [← ba_len]
  obtain ⟨ds, hds⟩ : ∃ ds : ByteArray, (⟨(Lib.decDigits p.1.2).toArray⟩ : ByteArray) = ds := ⟨_, rfl⟩
  have HI := Lib.hid (libItoa4 p.1.2 W hgW.out hpd)
  rw [hds] at hdl2 HI
  rw [← hdl2] at hdl
  have Hds := Lib.hid hds
  clear hdl2 hds
  by_cases hlt : p.1.1 < n - 1
  · have c1 : decide ((p.1.1 : Int) < (n : Int) - 1) = true := by simp; omega
    gi_wp2_with (first
     | (refine ⟨trivial, ?_⟩; gi_at_call 75; refine (CallsIn.inRound l (callsIn_wide.2 HI.out)).mono ?_; rintro e w1 ⟨rfl, hb1⟩; have s2 : w1.cell? ⟨w.heap.size, 1, none⟩ = some (.slice aa n ca) := (hb1.cell (p := ⟨w.heap.size, 1, none⟩) HS.out.lt).trans s1)
     | (refine ⟨trivial, ?_⟩; gi_at_call 155; refine (CallsIn.inRound l (callsIn_wide.2 (libRepeat0 _ _ (by omega) (by omega)))).mono ?_; rintro e w2 ⟨rfl, hb2⟩))
    obtain ⟨t, ht⟩ : ∃ t : ByteArray, (⟨Array.replicate (4 - ds.size) 48⟩ ++ ds : ByteArray) = t := ⟨_, rfl⟩
    have htl : t.data.toList = pad4 p.1.2 := by
     have hz2 : ds.data.toList = Lib.decDigits p.1.2 := by rw [← Hds.out]
     have hz : ds.size = (Lib.decDigits p.1.2).length := by rw [← ba_len, hz2]
     rw [← ht]
     simp [pad4, hz, hz2]
    have hts : t.size ≤ 4 := by rw [← ba_len, htl, pad4_len hpd]; omega
    rw [ht]
    refine ⟨trivial, ?_⟩
    refine (CallsIn.inRound l (callsIn_wide.2 (hWr.out w2 t (hb1.trans (hb2.mono hb1.size)) hts))).mono ?_
    rintro e w3 ⟨rfl, h3⟩
    have h4 := hEnd.out w2 w3 t (hb1.trans (hb2.mono hb1.size)) (by rw [if_pos hlt, htl]) h3
    have H4 := Lib.hid h4
    clear h3 h4 ht htl
    gi_wp2
    exact ⟨H4.out.1.from _, H4.out.2.1, H4.out.2.2⟩
  · have c1 : decide ((p.1.1 : Int) < (n : Int) - 1) = false := by simp; omega
    gi_wp2_with (first
     | (refine ⟨trivial, ?_⟩; gi_at_call 75; refine (CallsIn.inRound l (callsIn_wide.2 HI.out)).mono ?_; rintro e w1 ⟨rfl, hb1⟩; have s2 : w1.cell? ⟨w.heap.size, 1, none⟩ = some (.slice aa n ca) := (hb1.cell (p := ⟨w.heap.size, 1, none⟩) HS.out.lt).trans s1))
    refine ⟨trivial, ?_⟩
    refine (CallsIn.inRound l (callsIn_wide.2 (hWr.out w1 ds hb1 (by omega)))).mono ?_
    rintro e w3 ⟨rfl, h3⟩
    have H4 := Lib.hid (hEnd.out w1 w3 ds hb1 (by rw [if_neg hlt, ← Hds.out]) h3)
    clear h3
    gi_wp2
    exact ⟨H4.out.1.from _, H4.out.2.1, H4.out.2.2⟩
 case done =>
  rintro D ys W hD hys ⟨⟨hU, hS, hX⟩, hB⟩ hK
  have htx : txFold n ys = Lib.decDigits x := by rw [← Hn.out]; exact txFold_end (by intro e; subst e; apply hn0; rw [← Hn.out, digs_zero]; rfl) hys
  rw [htx] at hU
  have HK := Lib.hid hK
  have HS := Lib.hid hS
  have HU := Lib.hid hU
  have hlt := hX.lt
  have hbx : Hid ((Lib.decDigits x).length ≤ 200 ↔ x < BIG) := Lib.hid (decDigits_length_le x 200 (by decide))
  have hts : (⟨(Lib.decDigits x).toArray⟩ : ByteArray).size = (Lib.decDigits x).length := by rw [← ba_len]
  obtain ⟨t, ht⟩ : ∃ t : ByteArray, (⟨(Lib.decDigits x).toArray⟩ : ByteArray) = t := ⟨_, rfl⟩
  rw [ht] at hts
  have Ht := Lib.hid ht
  have Hts := Lib.hid hts
  have hSt := Lib.hid (Tryz.Builder_String_any_k (w.heap.size + 1) (w.heap.size + 1) (Lib.decDigits x) W HU.out (by omega))
  rw [ht] at hSt
  clear hys htx hK hS hU hX ht hts
  by_cases hbig : x < BIG
  · have c2 : ¬ (200 : Int) < (t.size : Int) := by have := hbx.out.2 hbig; rw [← Hts.out] at this; omega
    have hx0 : x ≠ 0 := by intro e; apply hn0; rw [← Hn.out, e, digs_zero]; rfl
    have Hp := Lib.hid (chkI_pos hbig Ht.out)
    have Hm := Lib.hid (chkI_neg hbig hx0 Ht.out)
    clear hbig hx0
    cases neg
    · gi_wp2_with (refine ⟨trivial, ?_⟩; gi_at_call 116; refine (callsIn_wide.2 hSt.out).mono ?_
                   rintro e w2 ⟨rfl, h1, h2, h3⟩
                   have hS2 : Blk w2 w.heap.size #[.bool false, .slice aa n ca] 144 := h3 _ _ HS.out (by simp) (by intro c fz e; injection e with e1 e2; exact absurd e2 (by decide))
                   have s0 : w2.cell? ⟨w.heap.size, 0, none⟩ = some (.bool false) := hS2.cell (i := 0) rfl
                   have HK2 := Lib.hid (h3 _ _ HK.out (by simp; omega) (by intro c fz e; cases e))
                   have HB2 := Lib.hid (hB.trans (h2.mono (by omega)))
                   clear hS2 h1 h2 h3)
      refine ⟨by simp, .inl ⟨_, _, rfl, run_takeDeferred HK2.out, ?_⟩⟩
      refine ⟨.tuple #[.string t, .int .i64 0], ?_, ?_, HB2.out.trans (belowK_b (w := w) (Nat.le_refl _) _ D _ _ (by omega) HK2.out rfl rfl)⟩
      · simp [results, Tryz.f129, go_sem]
      · rw [Hp.out]
    · gi_wp2_with (refine ⟨trivial, ?_⟩; gi_at_call 116; refine (callsIn_wide.2 hSt.out).mono ?_
                   rintro e w2 ⟨rfl, h1, h2, h3⟩
                   have hS2 : Blk w2 w.heap.size #[.bool true, .slice aa n ca] 144 := h3 _ _ HS.out (by simp) (by intro c fz e; injection e with e1 e2; exact absurd e2 (by decide))
                   have s0 : w2.cell? ⟨w.heap.size, 0, none⟩ = some (.bool true) := hS2.cell (i := 0) rfl
                   have HK2 := Lib.hid (h3 _ _ HK.out (by simp; omega) (by intro c fz e; cases e))
                   have HB2 := Lib.hid (hB.trans (h2.mono (by omega)))
                   clear hS2 h1 h2 h3)
      refine ⟨by simp, .inl ⟨_, _, rfl, run_takeDeferred HK2.out, ?_⟩⟩
      refine ⟨.tuple #[.string (⟨#[45]⟩ ++ t), .int .i64 0], ?_, ?_, HB2.out.trans (belowK_b (w := w) (Nat.le_refl _) _ D _ _ (by omega) HK2.out rfl rfl)⟩
      · simp [results, Tryz.f129, go_sem]
      · rw [Hm.out]
  · have c2 : (200 : Int) < (t.size : Int) := by have h : ¬ (Lib.decDigits x).length ≤ 200 := (fun h => hbig (hbx.out.1 h)); rw [← Hts.out] at h; omega
    have Hp := Lib.hid (chkI_big neg hbig)
    clear hbig
    gi_wp2_with (refine ⟨trivial, ?_⟩; gi_at_call 116; refine (callsIn_wide.2 hSt.out).mono ?_
                 rintro e w2 ⟨rfl, h1, h2, h3⟩
                 have HK2 := Lib.hid (h3 _ _ HK.out (by simp; omega) (by intro c fz e; cases e))
                 have HB2 := Lib.hid (hB.trans (h2.mono (by omega)))
                 clear h1 h2 h3)
    refine ⟨by simp, .inl ⟨_, _, rfl, run_takeDeferred HK2.out, ?_⟩⟩
    refine ⟨.tuple #[.string ⟨#[]⟩, .int .i64 30], ?_, ?_, HB2.out.trans (belowK_b (w := w) (Nat.le_refl _) _ D _ _ (by omega) HK2.out rfl rfl)⟩
    · simp [results, Tryz.f129, go_sem]
    · rw [Hp.out]
 case stop => exact fun _ _ _ _ _ _ hx _ => hx.elim
set_option maxRecDepth 100000 in
theorem text_any (neg : Bool) (x : Nat) (v : Value) (w : World) (hv : Rd encN w v (digs 10000 x)) (hg : Glob w) (hx : (digs 10000 x).length ≤ 1000) :
 Calls Tryz.prog 129 #[.agg #[.bool neg, v]] w fun e w' => e = .returned (.tuple #[.string (chkI (sgn neg x)).1, .int .i64 (chkI (sgn neg x)).2]) ∧ Below w.heap.size w w' := by
 obtain ⟨aa, ca, rfl, _⟩ := hv.open'
 by_cases h0 : x = 0
 · subst h0
   have e : chkI (sgn neg 0) = (⟨#[48]⟩, 0) := by
    have h1 : sgn neg 0 = 0 := by unfold sgn; split <;> rfl
    have h2 : (0 : Nat) < BIG := zero_lt_BIG
    unfold chkI
    rw [h1, if_pos (by simpa using h2)]
    congr 1
    apply ba_ext
    rw [ofI_list, itoa_pos (by decide), decDigits_digs]; simp
   rw [e, digs_zero]
   clear e hv hx hg
   go_enter Tryz.func129, Tryz.ntmps129
   go_wp2
   go_ret2
   exact ⟨rfl, (Below.refl _ w).alloc (Nat.le_refl _) _⟩
 · exact text_pos neg x h0 aa ca w hv hg hx
theorem digs_len_BIG {x : Nat} (h : x < BIG) : (digs 10000 x).length ≤ 50 := by
 refine (digs_length_le (by decide) x 50).2 (Nat.lt_of_lt_of_le h ?_)
 unfold BIG
 rw [show (10000 : Nat) = 10 ^ 4 from rfl, ← Nat.pow_mul]
 exact Nat.le_refl _
theorem digs_len_nS {s : ByteArray} (h : vS s = true) : (digs 10000 (nS s).natAbs).length ≤ 50 := digs_len_BIG (nS_lt h)
theorem isValid_is {s : ByteArray} {b : Bool} (h : vS s = b) (w : World) (hs : s.size ≤ maxLen) : Calls Tryz.prog 131 #[.string s] w fun e w' => e = .returned (.bool b) ∧ Below w.heap.size w w' := by
 have := isValid_any s w hs; rwa [h] at this
set_option maxRecDepth 100000 in
theorem both_no (a b : ByteArray) (h : (vS a && vS b) = false) (w : World) (ha : a.size ≤ maxLen) (hb : b.size ≤ maxLen) :
 Calls Tryz.prog 127 #[.string a, .string b] w fun e w' => e = .returned (.tuple #[.agg #[.bool false, .slice none 0 0], .agg #[.bool false, .slice none 0 0], .bool false]) ∧ Below w.heap.size w w' := by
 unfold maxLen at ha hb
 have R0 : ∀ w1, Below (w.heap.size + 1 + 1) ((w.alloc (.cells #[.bool false, .slice none 0 0] 144)).alloc (.cells #[.bool false, .slice none 0 0] 144)) w1 →
  Blk w1 w.heap.size #[.bool false, .slice none 0 0] 144 ∧ Blk w1 (w.heap.size + 1) #[.bool false, .slice none 0 0] 144 ∧ Below w.heap.size w w1 := fun w1 h1 =>
  ⟨((Blk.new w _ _).alloc _).below h1 (by omega), (Blk.newAt _ _ _ (by simp)).below h1 (by omega), (((Below.refl _ w).alloc (Nat.le_refl _) _).alloc (by simp) _).trans (h1.mono (by omega))⟩
 have HR := Lib.hid R0
 clear R0
 cases hva : vS a with
 | false =>
   have Ha := Lib.hid (fun w => isValid_is hva w ha)
   clear hva h
   go_enter Tryz.func127, Tryz.ntmps127
   go_wp2_with (go_at_call 131; refine (Ha.out _).mono ?_; rintro e w1 ⟨rfl, hb1⟩; obtain ⟨r1, r2, r3⟩ := HR.out w1 (by simpa using hb1); obtain ⟨c1, c2, c3, c4, _⟩ := blk2 r1; obtain ⟨d1, d2, d3, d4, _⟩ := blk2 r2)
   refine bodyPost_ret (v := .tuple #[.agg #[.bool false, .slice none 0 0], .agg #[.bool false, .slice none 0 0], .bool false]) (by simp [results, Tryz.results127, go_sem, c1, c2, c3, c4, d1, d2, d3, d4]) rfl ⟨rfl, ?_⟩
   exact (((r3.setCell (by simp) _).setCell (by simp) _).setCell (by simp) _).setCell (by simp) _
 | true =>
   have hvb : vS b = false := by rw [hva] at h; simpa using h
   have Ha := Lib.hid (fun w => isValid_is hva w ha)
   have Hb := Lib.hid (fun w => isValid_is hvb w hb)
   clear hva hvb h
   go_enter Tryz.func127, Tryz.ntmps127
   go_wp2_with fail
   (with_reducible refine (Ha.out _).mono ?_); rintro e w1 ⟨rfl, hb1⟩
   go_wp2_with fail
   (with_reducible refine (Hb.out _).mono ?_); rintro e w2 ⟨rfl, hb2⟩
   obtain ⟨r1, r2, r3⟩ := HR.out w2 (by simp at hb1; exact hb1.trans (hb2.mono (by have := hb1.size; simp at this; omega)))
   obtain ⟨c1, c2, c3, c4, _⟩ := blk2 r1
   obtain ⟨d1, d2, d3, d4, _⟩ := blk2 r2
   go_wp2
   refine bodyPost_ret (v := .tuple #[.agg #[.bool false, .slice none 0 0], .agg #[.bool false, .slice none 0 0], .bool false]) (by simp [results, Tryz.results127, go_sem, c1, c2, c3, c4, d1, d2, d3, d4]) rfl ⟨rfl, ?_⟩
   exact (((r3.setCell (by simp) _).setCell (by simp) _).setCell (by simp) _).setCell (by simp) _
set_option maxRecDepth 100000 in
theorem both_yes (a b : ByteArray) (hva : vS a = true) (hvb : vS b = true) (w : World) :
 Calls Tryz.prog 127 #[.string a, .string b] w fun e w' => ∃ v1 v2, e = .returned (.tuple #[.agg #[.bool (negB a.data.toList), v1], .agg #[.bool (negB b.data.toList), v2], .bool true]) ∧ Rd encN w' v1 (digs 10000 (nS a).natAbs) ∧ Rd encN w' v2 (digs 10000 (nS b).natAbs) ∧ From w.heap.size v1 ∧ From w.heap.size v2 ∧ Below w.heap.size w w' := by
 have ha : a.size ≤ maxLen := by have := vS_size hva; unfold maxLen; omega
 have hb : b.size ≤ maxLen := by have := vS_size hvb; unfold maxLen; omega
 have R0 : ∀ w1, Below (w.heap.size + 1 + 1) ((w.alloc (.cells #[.bool false, .slice none 0 0] 144)).alloc (.cells #[.bool false, .slice none 0 0] 144)) w1 →
  Blk w1 w.heap.size #[.bool false, .slice none 0 0] 144 ∧ Blk w1 (w.heap.size + 1) #[.bool false, .slice none 0 0] 144 ∧ Below w.heap.size w w1 := fun w1 h1 =>
  ⟨((Blk.new w _ _).alloc _).below h1 (by omega), (Blk.newAt _ _ _ (by simp)).below h1 (by omega), (((Below.refl _ w).alloc (Nat.le_refl _) _).alloc (by simp) _).trans (h1.mono (by omega))⟩
 have HR := Lib.hid R0
 clear R0
 have Ha := Lib.hid (fun w => isValid_is hva w ha)
 have Hb := Lib.hid (fun w => isValid_is hvb w hb)
 have Pa := Lib.hid (fun w => parse_any a w hva)
 have Pb := Lib.hid (fun w => parse_any b w hvb)
 obtain ⟨na, hna⟩ : ∃ x, negB a.data.toList = x := ⟨_, rfl⟩
 obtain ⟨nb, hnb⟩ : ∃ x, negB b.data.toList = x := ⟨_, rfl⟩
 rw [hna] at Pa ⊢
 rw [hnb] at Pb ⊢
 clear hva hvb ha hb hna hnb
 go_enter Tryz.func127, Tryz.ntmps127
 go_wp2_with fail
 (with_reducible refine (Ha.out _).mono ?_); rintro e w1 ⟨rfl, hb1⟩
 go_wp2_with fail
 (with_reducible refine (Hb.out _).mono ?_); rintro e w2 ⟨rfl, hb2⟩
 go_wp2_with fail
 (with_reducible refine (Pa.out _).mono ?_); rintro e w3 ⟨v1, rfl, hr1, hf1, hb3⟩
 go_wp2_with fail
 (with_reducible refine (Pb.out _).mono ?_); rintro e w4 ⟨v2, rfl, hr2, hf2, hb4⟩
 have hbb : Below (w.heap.size + 1 + 1) ((w.alloc (.cells #[.bool false, .slice none 0 0] 144)).alloc (.cells #[.bool false, .slice none 0 0] 144)) w4 := by
  simp only [World.size_alloc] at hb1
  have s1 := hb1.size
  simp only [World.size_alloc] at s1
  have s2 := hb2.size
  have s3 := hb3.size
  exact ((hb1.trans (hb2.mono (by omega))).trans (hb3.mono (by omega))).trans (hb4.mono (by omega))
 have s1 := hb1.size
 have s2 := hb2.size
 have s3 := hb3.size
 simp only [World.size_alloc] at s1
 obtain ⟨r1, r2, r3⟩ := HR.out w4 hbb
 obtain ⟨c1, c2, c3, c4, _⟩ := blk2 r1
 obtain ⟨d1, d2, d3, d4, _⟩ := blk2 r2
 have hq1 := hr1.below hb4
 obtain ⟨a1, k1, rfl, _⟩ := hr1.open'
 obtain ⟨a2, k2, rfl, _⟩ := hr2.open'
 have Hq1 := Lib.hid hq1
 have Hq2 := Lib.hid hr2
 clear hq1 hr1 hr2 hbb hb1 hb2 hb3 hb4
 go_wp2
 have f1 : From (w.heap.size + 2) _ := hf1.mono (by omega)
 have f2 : From (w.heap.size + 2) _ := hf2.mono (by omega)
 refine bodyPost_ret (v := .tuple #[.agg #[.bool na, .slice a1 _ k1], .agg #[.bool nb, .slice a2 _ k2], .bool true]) (by simp [results, Tryz.results127, go_sem, c1, c2, c3, c4, d1, d2, d3, d4]) rfl ⟨_, _, rfl, ?_, ?_, f1.mono (by omega), f2.mono (by omega), ?_⟩
 · exact (((Hq1.out.setCell f1 (by simp) _).setCell f1 (by simp) _).setCell f1 (by simp) _).setCell f1 (by simp) _
 · exact (((Hq2.out.setCell f2 (by simp) _).setCell f2 (by simp) _).setCell f2 (by simp) _).setCell f2 (by simp) _
 · exact (((r3.setCell (by simp) _).setCell (by simp) _).setCell (by simp) _).setCell (by simp) _
set_option maxRecDepth 100000 in
theorem one_any (w : World) : Calls Tryz.prog 135 #[] w fun e w' => ∃ v, e = .returned v ∧ Rd encN w' v (digs 10000 1) ∧ From w.heap.size v ∧ Below w.heap.size w w' := by
 have e1 : digs 10000 1 = [1] := digs_digit (by decide) (by decide) (by decide)
 go_enter Tryz.func135, Tryz.ntmps135
 go_wp2
 go_ret
 refine ⟨_, rfl, ?_, fun k hk => by cases hk; exact Nat.le_refl _, (Below.refl _ w).alloc (Nat.le_refl _) _⟩
 rw [e1]
 exact (OwnL.lit1 w 1 rfl).rd
theorem cmpN_nonneg {x y : Nat} (h : y ≤ x) : 0 ≤ cmpN x y := by
 unfold cmpN
 rw [if_neg (by omega)]
 split <;> omega
def SgPost (s : Int) (w : World) (e : Ending) (w' : World) : Prop :=
 ∃ neg z v, e = .returned (.agg #[.bool neg, v]) ∧ sgn neg z = s ∧ Rd encN w' v (digs 10000 z) ∧ From w.heap.size v ∧ Below w.heap.size w w'
set_option maxRecDepth 100000 in
set_option maxHeartbeats 1000000 in
theorem sgPlus_same (neg : Bool) (x y : Nat) (v1 v2 : Value) (w : World) (h1 : Rd encN w v1 (digs 10000 x)) (h2 : Rd encN w v2 (digs 10000 y)) (hx : (digs 10000 x).length ≤ 400) (hy : (digs 10000 y).length ≤ 400) :
 Calls Tryz.prog 128 #[.agg #[.bool neg, v1], .agg #[.bool neg, v2]] w (SgPost (sgn neg x + sgn neg y) w) := by
 have hfin : sgn neg (x + y) = sgn neg x + sgn neg y := by unfold sgn; split <;> omega
 rw [← hfin]
 obtain ⟨a1, k1, rfl, _⟩ := h1.open'
 obtain ⟨a2, k2, rfl, _⟩ := h2.open'
 obtain ⟨n1, e1⟩ : ∃ n, (digs 10000 x).length = n := ⟨_, rfl⟩
 obtain ⟨n2, e2⟩ : ∃ n, (digs 10000 y).length = n := ⟨_, rfl⟩
 have H1 := Lib.hid h1
 have H2 := Lib.hid h2
 have Hx := Lib.hid hx
 have Hy := Lib.hid hy
 rw [e1] at H1 ⊢
 rw [e2] at H2 ⊢
 have c1 : (neg == neg) = true := by simp
 clear h1 h2 hx hy e1 e2 hfin
 have hmx : Tryz.prog.follows .mixedOrders = true := by kernel_rfl
 have r1 : Blk (((w.alloc (.cells #[.bool neg, .slice a1 n1 k1] 144)).alloc (.cells #[.bool neg, .slice a2 n2 k2] 144)).alloc (.cells #[.bool false, .slice none 0 0] 144)) w.heap.size #[.bool neg, .slice a1 n1 k1] 144 := ((Blk.new w _ _).alloc _).alloc _
 have r2 : Blk (((w.alloc (.cells #[.bool neg, .slice a1 n1 k1] 144)).alloc (.cells #[.bool neg, .slice a2 n2 k2] 144)).alloc (.cells #[.bool false, .slice none 0 0] 144)) (w.heap.size + 1) #[.bool neg, .slice a2 n2 k2] 144 := (Blk.newAt _ _ _ (by simp)).alloc _
 have r3 : Blk (((w.alloc (.cells #[.bool neg, .slice a1 n1 k1] 144)).alloc (.cells #[.bool neg, .slice a2 n2 k2] 144)).alloc (.cells #[.bool false, .slice none 0 0] 144)) (w.heap.size + 1 + 1) #[.bool false, .slice none 0 0] 144 := Blk.newAt _ _ _ (by simp)
 have rb : Below w.heap.size w (((w.alloc (.cells #[.bool neg, .slice a1 n1 k1] 144)).alloc (.cells #[.bool neg, .slice a2 n2 k2] 144)).alloc (.cells #[.bool false, .slice none 0 0] 144)) := (((Below.refl _ w).alloc (Nat.le_refl _) _).alloc (by simp) _).alloc (by simp; omega) _
 have R1 := Lib.hid r1
 have R2 := Lib.hid r2
 have R3 := Lib.hid r3
 have RB := Lib.hid rb
 clear r1 r2 r3 rb
 go_enter Tryz.func128, Tryz.ntmps128
 go_wp2
 generalize (((w.alloc (.cells #[.bool neg, .slice a1 n1 k1] 144)).alloc (.cells #[.bool neg, .slice a2 n2 k2] 144)).alloc (.cells #[.bool false, .slice none 0 0] 144)) = W0 at *
 have ne1 : ¬ (w.heap.size + 1 + 1 = w.heap.size) := by omega
 have ne2 : ¬ (w.heap.size = w.heap.size + 1 + 1) := by omega
 obtain ⟨p1, p2, _, _, _⟩ := blk2 R1.out
 obtain ⟨q1, q2, _, _, _⟩ := blk2 R2.out
 go_region_held3 (fun w' => (w'.cell? ⟨w.heap.size, 0, none⟩ = some (.bool neg) ∧ w'.cell? ⟨w.heap.size, 1, none⟩ = some (.slice a1 n1 k1)) ∧ w'.cell? ⟨w.heap.size + 1, 1, none⟩ = some (.slice a2 n2 k2)) (go_keep)
  ((go_at_call 134; refine (numPlus_any x y _ _ _ (H1.out.below RB.out.drew) (H2.out.below RB.out.drew) (by have := Hx.out; have := Hy.out; omega) (by have := Hx.out; have := Hy.out; omega)).mono ?_
    rintro e w6 ⟨v6, rfl, hr6, hf6, hb6⟩
    obtain ⟨u1, u2, u3, u4, _⟩ := blk2 (Blk.below (w := W0.drew) R1.out hb6 R1.out.lt)
    obtain ⟨z1, z2, z3, z4, _⟩ := blk2 (Blk.below (w := W0.drew) R2.out hb6 R2.out.lt)
    obtain ⟨y1, y2, y3, y4, _⟩ := blk2 (Blk.below (w := W0.drew) R3.out hb6 R3.out.lt)
    obtain ⟨a6, k6, rfl, _⟩ := hr6.open'
    have HR6 := Lib.hid hr6
    have HF6 := Lib.hid (hf6.mono (show w.heap.size + 1 + 1 + 1 ≤ _ from R3.out.lt))
    have HB6 := Lib.hid (RB.out.drew.trans (hb6.mono RB.out.size))
    clear hr6 hf6 hb6))
 all_goals go_wp2
 all_goals
  refine bodyPost_ret (v := .agg #[.bool neg, .slice a6 _ k6]) (by simp [results, Tryz.results128, go_sem, y1, y2, y3, y4]) rfl ⟨neg, (x + y), _, rfl, rfl, ?_, HF6.out.mono (by omega), ?_⟩
  · exact (HR6.out.setCell HF6.out (by simp) _).setCell HF6.out (by simp) _
  · exact (HB6.out.setCell (by simp <;> omega) _).setCell (by simp <;> omega) _
set_option maxRecDepth 100000 in
set_option maxHeartbeats 1000000 in
theorem sgPlus_ge (neg1 neg2 : Bool) (hne : neg1 ≠ neg2) (x y : Nat) (hxy : y ≤ x) (v1 v2 : Value) (w : World) (h1 : Rd encN w v1 (digs 10000 x)) (h2 : Rd encN w v2 (digs 10000 y)) (hx : (digs 10000 x).length ≤ 400) (hy : (digs 10000 y).length ≤ 400) :
 Calls Tryz.prog 128 #[.agg #[.bool neg1, v1], .agg #[.bool neg2, v2]] w (SgPost (sgn neg1 x + sgn neg2 y) w) := by
 have hfin : sgn neg1 (x - y) = sgn neg1 x + sgn neg2 y := by revert hne; cases neg1 <;> cases neg2 <;> simp [sgn] <;> omega
 rw [← hfin]
 obtain ⟨a1, k1, rfl, _⟩ := h1.open'
 obtain ⟨a2, k2, rfl, _⟩ := h2.open'
 obtain ⟨n1, e1⟩ : ∃ n, (digs 10000 x).length = n := ⟨_, rfl⟩
 obtain ⟨n2, e2⟩ : ∃ n, (digs 10000 y).length = n := ⟨_, rfl⟩
 have H1 := Lib.hid h1
 have H2 := Lib.hid h2
 have Hx := Lib.hid hx
 have Hy := Lib.hid hy
 rw [e1] at H1 ⊢
 rw [e2] at H2 ⊢
 have c1 : (neg1 == neg2) = false := by simpa using hne
 obtain ⟨cv, hcv⟩ : ∃ c, cmpN x y = c := ⟨_, rfl⟩
 have c2 : 0 ≤ cv := by rw [← hcv]; exact cmpN_nonneg hxy
 have Hcm := Lib.hid hcv
 have Hxy := Lib.hid hxy
 clear hne hcv hxy
 clear h1 h2 hx hy e1 e2 hfin
 have hmx : Tryz.prog.follows .mixedOrders = true := by kernel_rfl
 have r1 : Blk (((w.alloc (.cells #[.bool neg1, .slice a1 n1 k1] 144)).alloc (.cells #[.bool neg2, .slice a2 n2 k2] 144)).alloc (.cells #[.bool false, .slice none 0 0] 144)) w.heap.size #[.bool neg1, .slice a1 n1 k1] 144 := ((Blk.new w _ _).alloc _).alloc _
 have r2 : Blk (((w.alloc (.cells #[.bool neg1, .slice a1 n1 k1] 144)).alloc (.cells #[.bool neg2, .slice a2 n2 k2] 144)).alloc (.cells #[.bool false, .slice none 0 0] 144)) (w.heap.size + 1) #[.bool neg2, .slice a2 n2 k2] 144 := (Blk.newAt _ _ _ (by simp)).alloc _
 have r3 : Blk (((w.alloc (.cells #[.bool neg1, .slice a1 n1 k1] 144)).alloc (.cells #[.bool neg2, .slice a2 n2 k2] 144)).alloc (.cells #[.bool false, .slice none 0 0] 144)) (w.heap.size + 1 + 1) #[.bool false, .slice none 0 0] 144 := Blk.newAt _ _ _ (by simp)
 have rb : Below w.heap.size w (((w.alloc (.cells #[.bool neg1, .slice a1 n1 k1] 144)).alloc (.cells #[.bool neg2, .slice a2 n2 k2] 144)).alloc (.cells #[.bool false, .slice none 0 0] 144)) := (((Below.refl _ w).alloc (Nat.le_refl _) _).alloc (by simp) _).alloc (by simp; omega) _
 have R1 := Lib.hid r1
 have R2 := Lib.hid r2
 have R3 := Lib.hid r3
 have RB := Lib.hid rb
 clear r1 r2 r3 rb
 go_enter Tryz.func128, Tryz.ntmps128
 go_wp2_with fail
 refine (compare_any x y _ _ _ (H1.out.below RB.out) (H2.out.below RB.out) (by have := Hx.out; omega)).mono ?_
 rw [Hcm.out]
 rintro e W0 ⟨rfl, hb0⟩
 have S1 := R1.out.below hb0 R1.out.lt
 have S2 := R2.out.below hb0 R2.out.lt
 have S3 := R3.out.below hb0 R3.out.lt
 have SB := RB.out.trans (hb0.mono RB.out.size)
 clear R1 R2 R3 RB hb0
 have R1 := Lib.hid S1
 have R2 := Lib.hid S2
 have R3 := Lib.hid S3
 have RB := Lib.hid SB
 clear S1 S2 S3 SB
 go_wp2
 have ne1 : ¬ (w.heap.size + 1 + 1 = w.heap.size) := by omega
 have ne2 : ¬ (w.heap.size = w.heap.size + 1 + 1) := by omega
 obtain ⟨p1, p2, _, _, _⟩ := blk2 R1.out
 obtain ⟨q1, q2, _, _, _⟩ := blk2 R2.out
 go_region_held3 (fun w' => (w'.cell? ⟨w.heap.size, 0, none⟩ = some (.bool neg1) ∧ w'.cell? ⟨w.heap.size, 1, none⟩ = some (.slice a1 n1 k1)) ∧ w'.cell? ⟨w.heap.size + 1, 1, none⟩ = some (.slice a2 n2 k2)) (go_keep)
  ((go_at_call 136; refine (numMinus_any x y Hxy.out _ _ _ (H1.out.below RB.out.drew) (H2.out.below RB.out.drew) (by have := Hx.out; have := Hy.out; omega) (by have := Hx.out; have := Hy.out; omega)).mono ?_
    rintro e w6 ⟨v6, rfl, hr6, hf6, hb6⟩
    obtain ⟨u1, u2, u3, u4, _⟩ := blk2 (Blk.below (w := W0.drew) R1.out hb6 R1.out.lt)
    obtain ⟨z1, z2, z3, z4, _⟩ := blk2 (Blk.below (w := W0.drew) R2.out hb6 R2.out.lt)
    obtain ⟨y1, y2, y3, y4, _⟩ := blk2 (Blk.below (w := W0.drew) R3.out hb6 R3.out.lt)
    obtain ⟨a6, k6, rfl, _⟩ := hr6.open'
    have HR6 := Lib.hid hr6
    have HF6 := Lib.hid (hf6.mono (show w.heap.size + 1 + 1 + 1 ≤ _ from R3.out.lt))
    have HB6 := Lib.hid (RB.out.drew.trans (hb6.mono RB.out.size))
    clear hr6 hf6 hb6))
 all_goals go_wp2
 all_goals
  refine bodyPost_ret (v := .agg #[.bool neg1, .slice a6 _ k6]) (by simp [results, Tryz.results128, go_sem, y1, y2, y3, y4]) rfl ⟨neg1, (x - y), _, rfl, rfl, ?_, HF6.out.mono (by omega), ?_⟩
  · exact (HR6.out.setCell HF6.out (by simp) _).setCell HF6.out (by simp) _
  · exact (HB6.out.setCell (by simp <;> omega) _).setCell (by simp <;> omega) _
set_option maxRecDepth 100000 in
set_option maxHeartbeats 1000000 in
theorem sgPlus_lt (neg1 neg2 : Bool) (hne : neg1 ≠ neg2) (x y : Nat) (hxy : x < y) (v1 v2 : Value) (w : World) (h1 : Rd encN w v1 (digs 10000 x)) (h2 : Rd encN w v2 (digs 10000 y)) (hx : (digs 10000 x).length ≤ 400) (hy : (digs 10000 y).length ≤ 400) :
 Calls Tryz.prog 128 #[.agg #[.bool neg1, v1], .agg #[.bool neg2, v2]] w (SgPost (sgn neg1 x + sgn neg2 y) w) := by
 have hfin : sgn neg2 (y - x) = sgn neg1 x + sgn neg2 y := by revert hne; cases neg1 <;> cases neg2 <;> simp [sgn] <;> omega
 rw [← hfin]
 obtain ⟨a1, k1, rfl, _⟩ := h1.open'
 obtain ⟨a2, k2, rfl, _⟩ := h2.open'
 obtain ⟨n1, e1⟩ : ∃ n, (digs 10000 x).length = n := ⟨_, rfl⟩
 obtain ⟨n2, e2⟩ : ∃ n, (digs 10000 y).length = n := ⟨_, rfl⟩
 have H1 := Lib.hid h1
 have H2 := Lib.hid h2
 have Hx := Lib.hid hx
 have Hy := Lib.hid hy
 rw [e1] at H1 ⊢
 rw [e2] at H2 ⊢
 have c1 : (neg1 == neg2) = false := by simpa using hne
 obtain ⟨cv, hcv⟩ : ∃ c, cmpN x y = c := ⟨_, rfl⟩
 have c2 : cv < 0 := by rw [← hcv]; unfold cmpN; rw [if_pos hxy]; omega
 have Hcm := Lib.hid hcv
 have Hxy := Lib.hid hxy
 clear hne hcv hxy
 clear h1 h2 hx hy e1 e2 hfin
 have hmx : Tryz.prog.follows .mixedOrders = true := by kernel_rfl
 have r1 : Blk (((w.alloc (.cells #[.bool neg1, .slice a1 n1 k1] 144)).alloc (.cells #[.bool neg2, .slice a2 n2 k2] 144)).alloc (.cells #[.bool false, .slice none 0 0] 144)) w.heap.size #[.bool neg1, .slice a1 n1 k1] 144 := ((Blk.new w _ _).alloc _).alloc _
 have r2 : Blk (((w.alloc (.cells #[.bool neg1, .slice a1 n1 k1] 144)).alloc (.cells #[.bool neg2, .slice a2 n2 k2] 144)).alloc (.cells #[.bool false, .slice none 0 0] 144)) (w.heap.size + 1) #[.bool neg2, .slice a2 n2 k2] 144 := (Blk.newAt _ _ _ (by simp)).alloc _
 have r3 : Blk (((w.alloc (.cells #[.bool neg1, .slice a1 n1 k1] 144)).alloc (.cells #[.bool neg2, .slice a2 n2 k2] 144)).alloc (.cells #[.bool false, .slice none 0 0] 144)) (w.heap.size + 1 + 1) #[.bool false, .slice none 0 0] 144 := Blk.newAt _ _ _ (by simp)
 have rb : Below w.heap.size w (((w.alloc (.cells #[.bool neg1, .slice a1 n1 k1] 144)).alloc (.cells #[.bool neg2, .slice a2 n2 k2] 144)).alloc (.cells #[.bool false, .slice none 0 0] 144)) := (((Below.refl _ w).alloc (Nat.le_refl _) _).alloc (by simp) _).alloc (by simp; omega) _
 have R1 := Lib.hid r1
 have R2 := Lib.hid r2
 have R3 := Lib.hid r3
 have RB := Lib.hid rb
 clear r1 r2 r3 rb
 go_enter Tryz.func128, Tryz.ntmps128
 go_wp2_with fail
 refine (compare_any x y _ _ _ (H1.out.below RB.out) (H2.out.below RB.out) (by have := Hx.out; omega)).mono ?_
 rw [Hcm.out]
 rintro e W0 ⟨rfl, hb0⟩
 have S1 := R1.out.below hb0 R1.out.lt
 have S2 := R2.out.below hb0 R2.out.lt
 have S3 := R3.out.below hb0 R3.out.lt
 have SB := RB.out.trans (hb0.mono RB.out.size)
 clear R1 R2 R3 RB hb0
 have R1 := Lib.hid S1
 have R2 := Lib.hid S2
 have R3 := Lib.hid S3
 have RB := Lib.hid SB
 clear S1 S2 S3 SB
 go_wp2
 have ne1 : ¬ (w.heap.size + 1 + 1 = w.heap.size) := by omega
 have ne2 : ¬ (w.heap.size = w.heap.size + 1 + 1) := by omega
 obtain ⟨p1, p2, _, _, _⟩ := blk2 R1.out
 obtain ⟨q1, q2, _, _, _⟩ := blk2 R2.out
 go_region_held3 (fun w' => (w'.cell? ⟨w.heap.size + 1, 0, none⟩ = some (.bool neg2) ∧ w'.cell? ⟨w.heap.size, 1, none⟩ = some (.slice a1 n1 k1)) ∧ w'.cell? ⟨w.heap.size + 1, 1, none⟩ = some (.slice a2 n2 k2)) (go_keep)
  ((go_at_call 136; refine (numMinus_any y x (Nat.le_of_lt Hxy.out) _ _ _ (H2.out.below RB.out.drew) (H1.out.below RB.out.drew) (by have := Hx.out; have := Hy.out; omega) (by have := Hx.out; have := Hy.out; omega)).mono ?_
    rintro e w6 ⟨v6, rfl, hr6, hf6, hb6⟩
    obtain ⟨u1, u2, u3, u4, _⟩ := blk2 (Blk.below (w := W0.drew) R1.out hb6 R1.out.lt)
    obtain ⟨z1, z2, z3, z4, _⟩ := blk2 (Blk.below (w := W0.drew) R2.out hb6 R2.out.lt)
    obtain ⟨y1, y2, y3, y4, _⟩ := blk2 (Blk.below (w := W0.drew) R3.out hb6 R3.out.lt)
    obtain ⟨a6, k6, rfl, _⟩ := hr6.open'
    have HR6 := Lib.hid hr6
    have HF6 := Lib.hid (hf6.mono (show w.heap.size + 1 + 1 + 1 ≤ _ from R3.out.lt))
    have HB6 := Lib.hid (RB.out.drew.trans (hb6.mono RB.out.size))
    clear hr6 hf6 hb6))
 all_goals go_wp2
 all_goals
  refine bodyPost_ret (v := .agg #[.bool neg2, .slice a6 _ k6]) (by simp [results, Tryz.results128, go_sem, y1, y2, y3, y4]) rfl ⟨neg2, (y - x), _, rfl, rfl, ?_, HF6.out.mono (by omega), ?_⟩
  · exact (HR6.out.setCell HF6.out (by simp) _).setCell HF6.out (by simp) _
  · exact (HB6.out.setCell (by simp <;> omega) _).setCell (by simp <;> omega) _
theorem sgPlus_any (neg1 neg2 : Bool) (x y : Nat) (v1 v2 : Value) (w : World) (h1 : Rd encN w v1 (digs 10000 x)) (h2 : Rd encN w v2 (digs 10000 y)) (hx : (digs 10000 x).length ≤ 400) (hy : (digs 10000 y).length ≤ 400) :
 Calls Tryz.prog 128 #[.agg #[.bool neg1, v1], .agg #[.bool neg2, v2]] w (SgPost (sgn neg1 x + sgn neg2 y) w) := by
 by_cases h : neg1 = neg2
 · subst h; exact sgPlus_same neg1 x y v1 v2 w h1 h2 hx hy
 · by_cases hxy : y ≤ x
   · exact sgPlus_ge neg1 neg2 h x y hxy v1 v2 w h1 h2 hx hy
   · exact sgPlus_lt neg1 neg2 h x y (by omega) v1 v2 w h1 h2 hx hy
theorem nS_neg {s : ByteArray} (h : vS s = true) (hn : negB s.data.toList = true) : nS s < 0 := by
 have h1 := nS_sgn s
 rw [hn] at h1
 unfold sgn at h1
 simp only [if_true] at h1
 by_cases h0 : (nS s).natAbs = 0
 · have h2 : nS s = 0 := by omega
   have h3 := ofI_nS h
   rw [h2] at h3
   rw [← h3, ofI_list] at hn
   simp [negB, itoa_pos, decDigits_digs] at hn
 · omega
theorem nS_pos {s : ByteArray} (hn : negB s.data.toList = false) : 0 ≤ nS s := by
 have h1 := nS_sgn s
 rw [hn] at h1
 unfold sgn at h1
 simp only [Bool.false_eq_true, if_false] at h1
 omega
theorem both_vals {a b : ByteArray} (h : (vS a && vS b) = true) : vS a = true ∧ vS b = true := by simpa using h
set_option maxRecDepth 100000 in
theorem intCompare_any (a b : ByteArray) (w : World) (hsa : a.size ≤ maxLen) (hsb : b.size ≤ maxLen) :
 Calls Tryz.prog 105 #[.string a, .string b] w fun e w' => e = .returned (.int .i64 (iCmp a b)) ∧ Below w.heap.size w w' := by
 by_cases h : (vS a && vS b) = true
 · have hr : iCmp a b = cmpI (nS a) (nS b) := by unfold iCmp; rw [if_pos h]
   rw [hr]
   obtain ⟨ha, hb⟩ := both_vals h
   have hB := Lib.hid (fun w => both_yes a b ha hb w)
   have hla := digs_len_nS ha
   have hlb := digs_len_nS hb
   have hna := nS_sgn a
   have hnb := nS_sgn b
   have hla' := @nS_neg a ha
   have hlb' := @nS_neg b hb
   have hpa := @nS_pos a
   have hpb := @nS_pos b
   generalize negB a.data.toList = na at *
   generalize negB b.data.toList = nb at *
   generalize hx : (nS a).natAbs = x at *
   generalize hy : (nS b).natAbs = y at *
   have Hla := Lib.hid hla
   have Hlb := Lib.hid hlb
   clear h hr ha hb hsa hsb hla hlb
   cases na <;> cases nb
   · have hres : cmpI (nS a) (nS b) = cmpN x y := by rw [hna, hnb]; exact cmp_sgn_pos x y
     rw [hres]
     clear hres hna hnb hla' hlb' hpa hpb hx hy
     go_enter Tryz.func105, Tryz.ntmps105
     go_wp2_with fail
     (with_reducible refine (hB.out _).mono ?_); rintro e w1 ⟨v1, v2, rfl, hr1, hr2, hf1, hf2, hb1⟩
     obtain ⟨a1, k1, rfl, _⟩ := hr1.open'
     obtain ⟨a2, k2, rfl, _⟩ := hr2.open'
     have H1 := Lib.hid hr1
     have H2 := Lib.hid hr2
     have HB := Lib.hid hb1
     clear hr1 hr2 hf1 hf2 hb1
     go_wp2_with (go_at_call 132; refine (compare_any x y _ _ _ (H1.out.below (((Below.refl _ _).alloc (Nat.le_refl _) _).alloc (by simp) _)) (H2.out.below (((Below.refl _ _).alloc (Nat.le_refl _) _).alloc (by simp) _)) (by have := Hla.out; omega)).mono ?_; rintro e w2 ⟨rfl, hb2⟩)
     go_ret
     refine ⟨rfl, ?_⟩
     have := HB.out.size
     exact ((HB.out.alloc (by omega) _).alloc (by simp; omega) _).trans (hb2.mono (by simp; omega))
   · have hres : cmpI (nS a) (nS b) = 1 := by have := hpa rfl; have := hlb' rfl; unfold cmpI; rw [if_neg (by omega), if_pos (by omega)]
     rw [hres]
     clear hres hna hnb hla' hlb' hpa hpb hx hy
     go_enter Tryz.func105, Tryz.ntmps105
     go_wp2_with fail
     (with_reducible refine (hB.out _).mono ?_); rintro e w1 ⟨v1, v2, rfl, hr1, hr2, hf1, hf2, hb1⟩
     obtain ⟨a1, k1, rfl, _⟩ := hr1.open'
     obtain ⟨a2, k2, rfl, _⟩ := hr2.open'
     clear hr1 hr2 hf1 hf2
     have HB := Lib.hid hb1
     clear hb1
     go_wp2
     go_ret
     refine ⟨rfl, ?_⟩
     have := HB.out.size
     exact (HB.out.alloc (by omega) _).alloc (by simp; omega) _
   · have hres : cmpI (nS a) (nS b) = -1 := by have := hpb rfl; have := hla' rfl; unfold cmpI; rw [if_pos (by omega)]
     rw [hres]
     clear hres hna hnb hla' hlb' hpa hpb hx hy
     go_enter Tryz.func105, Tryz.ntmps105
     go_wp2_with fail
     (with_reducible refine (hB.out _).mono ?_); rintro e w1 ⟨v1, v2, rfl, hr1, hr2, hf1, hf2, hb1⟩
     obtain ⟨a1, k1, rfl, _⟩ := hr1.open'
     obtain ⟨a2, k2, rfl, _⟩ := hr2.open'
     clear hr1 hr2 hf1 hf2
     have HB := Lib.hid hb1
     clear hb1
     go_wp2
     go_ret
     refine ⟨rfl, ?_⟩
     have := HB.out.size
     exact (HB.out.alloc (by omega) _).alloc (by simp; omega) _
   · have hres : cmpI (nS a) (nS b) = cmpN y x := by rw [hna, hnb]; exact cmp_sgn_neg x y
     rw [hres]
     clear hres hna hnb hla' hlb' hpa hpb hx hy
     go_enter Tryz.func105, Tryz.ntmps105
     go_wp2_with fail
     (with_reducible refine (hB.out _).mono ?_); rintro e w1 ⟨v1, v2, rfl, hr1, hr2, hf1, hf2, hb1⟩
     obtain ⟨a1, k1, rfl, _⟩ := hr1.open'
     obtain ⟨a2, k2, rfl, _⟩ := hr2.open'
     have H1 := Lib.hid hr1
     have H2 := Lib.hid hr2
     have HB := Lib.hid hb1
     clear hr1 hr2 hf1 hf2 hb1
     go_wp2_with (go_at_call 132; refine (compare_any y x _ _ _ (H2.out.below (((Below.refl _ _).alloc (Nat.le_refl _) _).alloc (by simp) _)) (H1.out.below (((Below.refl _ _).alloc (Nat.le_refl _) _).alloc (by simp) _)) (by have := Hlb.out; omega)).mono ?_; rintro e w2 ⟨rfl, hb2⟩)
     go_ret
     refine ⟨rfl, ?_⟩
     have := HB.out.size
     exact ((HB.out.alloc (by omega) _).alloc (by simp; omega) _).trans (hb2.mono (by simp; omega))
 · have hr : iCmp a b = 0 := by unfold iCmp; rw [if_neg h]
   rw [hr]
   have hB := Lib.hid (fun w => both_no a b (Bool.not_eq_true _ ▸ h) w hsa hsb)
   clear h hr hsa hsb
   go_enter Tryz.func105, Tryz.ntmps105
   go_wp2_with fail
   (with_reducible refine (hB.out _).mono ?_); rintro e w1 ⟨rfl, hb1⟩
   have HB := Lib.hid hb1
   clear hb1
   go_wp2
   go_ret
   refine ⟨rfl, ?_⟩
   have := HB.out.size
   exact (HB.out.alloc (by omega) _).alloc (by simp; omega) _
theorem digs_len_two {z : Nat} (h : z < BIG + BIG) : (digs 10000 z).length ≤ 51 := by
 refine (digs_length_le (by decide) z 51).2 ?_
 have h1 : z < BIG * 10 := by omega
 have h2 : BIG * 10 ≤ 10000 ^ 51 := by
  unfold BIG
  rw [← Nat.pow_succ, show (10000 : Nat) = 10 ^ 4 from rfl, ← Nat.pow_mul]
  exact Nat.pow_le_pow_right (by decide) (by decide)
 exact Nat.lt_of_lt_of_le h1 h2
set_option maxRecDepth 100000 in
set_option maxHeartbeats 1000000 in
theorem intAdd_any (a b : ByteArray) (w : World) (hg : Glob w) (hsa : a.size ≤ maxLen) (hsb : b.size ≤ maxLen) :
 Calls Tryz.prog 99 #[.string a, .string b] w fun e w' => e = .returned (.tuple #[.string (iAdd a b).1, .int .i64 (iAdd a b).2]) ∧ Below w.heap.size w w' := by
 by_cases h : (vS a && vS b) = true
 · have hr : iAdd a b = chkI (nS a + nS b) := by unfold iAdd; rw [if_pos h]
   rw [hr]
   obtain ⟨ha, hb⟩ := both_vals h
   have hB := Lib.hid (fun w => both_yes a b ha hb w)
   have hla := digs_len_nS ha
   have hlb := digs_len_nS hb
   have hna := nS_sgn a
   have hnb := nS_sgn b
   have hx1 := nS_lt ha
   have hy1 := nS_lt hb
   generalize negB a.data.toList = na at *
   generalize negB b.data.toList = nb at *
   generalize (nS a).natAbs = x at *
   generalize (nS b).natAbs = y at *
   rw [hna, hnb]
   have hz : ∀ neg z, sgn neg z = sgn na x + sgn nb y → (digs 10000 z).length ≤ 51 := by
    intro neg z hz
    have h1 := congrArg Int.natAbs hz
    have h2 := sgn_abs na x
    have h3 := sgn_abs nb y
    rw [sgn_abs] at h1
    exact digs_len_two (by omega)
   have Hz := Lib.hid hz
   have Hla := Lib.hid hla
   have Hlb := Lib.hid hlb
   have Hg := Lib.hid hg
   clear h hr ha hb hsa hsb hla hlb hna hnb hz hg
   go_enter Tryz.func99, Tryz.ntmps99
   go_wp2_with fail
   (with_reducible refine (hB.out _).mono ?_); rintro e w1 ⟨v1, v2, rfl, hr1, hr2, hf1, hf2, hb1⟩
   obtain ⟨a1, k1, rfl, _⟩ := hr1.open'
   obtain ⟨a2, k2, rfl, _⟩ := hr2.open'
   have H1 := Lib.hid hr1
   have H2 := Lib.hid hr2
   have HB := Lib.hid hb1
   have hs1 := hb1.size
   clear hr1 hr2 hf1 hf2 hb1
   have hbl : ∀ o1 o2, Below w1.heap.size w1 ((w1.alloc o1).alloc o2) := fun o1 o2 => ((Below.refl _ _).alloc (Nat.le_refl _) _).alloc (by simp) _
   have Hbl := Lib.hid hbl
   clear hbl
   go_wp2_with fail
   refine (sgPlus_any na (nb) x y _ _ _ (H1.out.below (Hbl.out _ _)) (H2.out.below (Hbl.out _ _)) (by have := Hla.out; omega) (by have := Hlb.out; omega)).mono ?_
   rintro e w2 ⟨neg, z, v, rfl, hs, hr, hf, hb2⟩
   have hgw := ((Hg.out.below HB.out).below (Hbl.out _ _)).below hb2
   have hl := Hz.out _ _ hs
   have HB2 := Lib.hid (HB.out.trans ((Hbl.out _ _).mono hs1 |>.trans (hb2.mono (by simp; omega))))
   have hs2 := HB2.out.size
   have HS := Lib.hid hs
   have HR := Lib.hid hr
   have HG := Lib.hid hgw
   have HL := Lib.hid hl
   clear hs hr hf hb2 hgw hl
   go_wp2_with fail
   refine (text_any neg z v _ HR.out HG.out (by have := HL.out; omega)).mono ?_
   rw [HS.out]
   rintro e w3 ⟨rfl, hb3⟩
   go_wp2
   go_ret2
   exact ⟨rfl, HB2.out.trans (hb3.mono hs2)⟩
 · have hr : iAdd a b = (ByteArray.empty, 30) := by unfold iAdd; rw [if_neg h]
   rw [hr]
   have hB := Lib.hid (fun w => both_no a b (Bool.not_eq_true _ ▸ h) w hsa hsb)
   clear h hr hsa hsb hg
   go_enter Tryz.func99, Tryz.ntmps99
   go_wp2_with fail
   (with_reducible refine (hB.out _).mono ?_); rintro e w1 ⟨rfl, hb1⟩
   have HB := Lib.hid hb1
   clear hb1
   go_wp2
   go_ret2
   refine ⟨rfl, ?_⟩
   have := HB.out.size
   exact (HB.out.alloc (by omega) _).alloc (by simp; omega) _
set_option maxRecDepth 100000 in
set_option maxHeartbeats 1000000 in
theorem intSub_any (a b : ByteArray) (w : World) (hg : Glob w) (hsa : a.size ≤ maxLen) (hsb : b.size ≤ maxLen) :
 Calls Tryz.prog 100 #[.string a, .string b] w fun e w' => e = .returned (.tuple #[.string (iSub a b).1, .int .i64 (iSub a b).2]) ∧ Below w.heap.size w w' := by
 by_cases h : (vS a && vS b) = true
 · have hr : iSub a b = chkI (nS a - nS b) := by unfold iSub; rw [if_pos h]
   rw [hr]
   obtain ⟨ha, hb⟩ := both_vals h
   have hB := Lib.hid (fun w => both_yes a b ha hb w)
   have hla := digs_len_nS ha
   have hlb := digs_len_nS hb
   have hna := nS_sgn a
   have hnb := nS_sgn b
   have hx1 := nS_lt ha
   have hy1 := nS_lt hb
   generalize negB a.data.toList = na at *
   generalize negB b.data.toList = nb at *
   generalize (nS a).natAbs = x at *
   generalize (nS b).natAbs = y at *
   rw [hna, hnb]
   have hm : sgn na x - sgn nb y = sgn na x + sgn (!nb) y := by unfold sgn; cases nb <;> simp; omega
   rw [hm]
   clear hm
   have hz : ∀ neg z, sgn neg z = sgn na x + sgn (!nb) y → (digs 10000 z).length ≤ 51 := by
    intro neg z hz
    have h1 := congrArg Int.natAbs hz
    have h2 := sgn_abs na x
    have h3 := sgn_abs (!nb) y
    rw [sgn_abs] at h1
    exact digs_len_two (by omega)
   have Hz := Lib.hid hz
   have Hla := Lib.hid hla
   have Hlb := Lib.hid hlb
   have Hg := Lib.hid hg
   clear h hr ha hb hsa hsb hla hlb hna hnb hz hg
   go_enter Tryz.func100, Tryz.ntmps100
   go_wp2_with fail
   (with_reducible refine (hB.out _).mono ?_); rintro e w1 ⟨v1, v2, rfl, hr1, hr2, hf1, hf2, hb1⟩
   obtain ⟨a1, k1, rfl, _⟩ := hr1.open'
   obtain ⟨a2, k2, rfl, _⟩ := hr2.open'
   have H1 := Lib.hid hr1
   have H2 := Lib.hid hr2
   have HB := Lib.hid hb1
   have hs1 := hb1.size
   clear hr1 hr2 hf1 hf2 hb1
   have hbl : ∀ o1 o2, Below w1.heap.size w1 ((w1.alloc o1).alloc o2) := fun o1 o2 => ((Below.refl _ _).alloc (Nat.le_refl _) _).alloc (by simp) _
   have Hbl := Lib.hid hbl
   clear hbl
   go_wp2_with fail
   refine (sgPlus_any na ((!nb)) x y _ _ _ (H1.out.below (Hbl.out _ _)) (H2.out.below (Hbl.out _ _)) (by have := Hla.out; omega) (by have := Hlb.out; omega)).mono ?_
   rintro e w2 ⟨neg, z, v, rfl, hs, hr, hf, hb2⟩
   have hgw := ((Hg.out.below HB.out).below (Hbl.out _ _)).below hb2
   have hl := Hz.out _ _ hs
   have HB2 := Lib.hid (HB.out.trans ((Hbl.out _ _).mono hs1 |>.trans (hb2.mono (by simp; omega))))
   have hs2 := HB2.out.size
   have HS := Lib.hid hs
   have HR := Lib.hid hr
   have HG := Lib.hid hgw
   have HL := Lib.hid hl
   clear hs hr hf hb2 hgw hl
   go_wp2_with fail
   refine (text_any neg z v _ HR.out HG.out (by have := HL.out; omega)).mono ?_
   rw [HS.out]
   rintro e w3 ⟨rfl, hb3⟩
   go_wp2
   go_ret2
   exact ⟨rfl, HB2.out.trans (hb3.mono hs2)⟩
 · have hr : iSub a b = (ByteArray.empty, 30) := by unfold iSub; rw [if_neg h]
   rw [hr]
   have hB := Lib.hid (fun w => both_no a b (Bool.not_eq_true _ ▸ h) w hsa hsb)
   clear h hr hsa hsb hg
   go_enter Tryz.func100, Tryz.ntmps100
   go_wp2_with fail
   (with_reducible refine (hB.out _).mono ?_); rintro e w1 ⟨rfl, hb1⟩
   have HB := Lib.hid hb1
   clear hb1
   go_wp2
   go_ret2
   refine ⟨rfl, ?_⟩
   have := HB.out.size
   exact (HB.out.alloc (by omega) _).alloc (by simp; omega) _
theorem sgn_mul (na nb : Bool) (x y : Nat) : sgn (na != nb) (x * y) = sgn na x * sgn nb y := by
 cases na <;> cases nb <;> simp [sgn, Int.neg_mul, Int.mul_neg]
theorem digs_len_mul {x y : Nat} (hx : (digs 10000 x).length ≤ 50) (hy : (digs 10000 y).length ≤ 50) : (digs 10000 (x * y)).length ≤ 100 := by
 have h1 := (digs_length_le (B := 10000) (by decide) x 50).1 hx
 have h2 := (digs_length_le (B := 10000) (by decide) y 50).1 hy
 refine (digs_length_le (by decide) _ 100).2 ?_
 rw [show 100 = 50 + 50 from rfl, Nat.pow_add]
 exact Nat.mul_lt_mul'' h1 h2
theorem from_own {w : World} {v : Value} {l : List Nat} (h : Rd encN w v l) : ∀ k, v.ownBlock = some k → k < w.heap.size := by
 intro k hk
 rcases h with ⟨rfl, _⟩ | ⟨b, off, cap, rfl, hb, _⟩
 · cases hk
 · cases hk; exact hb
set_option maxRecDepth 100000 in
set_option maxHeartbeats 1000000 in
theorem intMul_any (a b : ByteArray) (w : World) (hg : Glob w) (hsa : a.size ≤ maxLen) (hsb : b.size ≤ maxLen) :
 Calls Tryz.prog 122 #[.string a, .string b] w fun e w' => e = .returned (.tuple #[.string (iMul a b).1, .int .i64 (iMul a b).2]) ∧ Below w.heap.size w w' := by
 by_cases h : (vS a && vS b) = true
 · have hr : iMul a b = chkI (nS a * nS b) := by unfold iMul; rw [if_pos h]
   rw [hr]
   obtain ⟨ha, hb⟩ := both_vals h
   have hB := Lib.hid (fun w => both_yes a b ha hb w)
   have hla := digs_len_nS ha
   have hlb := digs_len_nS hb
   have hna := nS_sgn a
   have hnb := nS_sgn b
   have hx1 := nS_lt ha
   have hy1 := nS_lt hb
   generalize negB a.data.toList = na at *
   generalize negB b.data.toList = nb at *
   generalize (nS a).natAbs = x at *
   generalize (nS b).natAbs = y at *
   rw [hna, hnb]
   have hz := digs_len_mul hla hlb
   rw [← sgn_mul]
   have Hz := Lib.hid hz
   have Hla := Lib.hid hla
   have Hlb := Lib.hid hlb
   have Hg := Lib.hid hg
   clear h hr ha hb hsa hsb hla hlb hna hnb hz hg
   go_enter Tryz.func122, Tryz.ntmps122
   go_wp2_with fail
   (with_reducible refine (hB.out _).mono ?_); rintro e w1 ⟨v1, v2, rfl, hr1, hr2, hf1, hf2, hb1⟩
   obtain ⟨a1, k1, rfl, _⟩ := hr1.open'
   obtain ⟨a2, k2, rfl, _⟩ := hr2.open'
   have H1 := Lib.hid hr1
   have H2 := Lib.hid hr2
   have HB := Lib.hid hb1
   have hs1 := hb1.size
   clear hr1 hr2 hf1 hf2 hb1
   have hbl : ∀ o1 o2, Below w1.heap.size w1 ((w1.alloc o1).alloc o2) := fun o1 o2 => ((Below.refl _ _).alloc (Nat.le_refl _) _).alloc (by simp) _
   have Hbl := Lib.hid hbl
   clear hbl
   have hmx : Tryz.prog.follows .mixedOrders = true := by kernel_rfl
   obtain ⟨n1, e1⟩ : ∃ n, (digs 10000 x).length = n := ⟨_, rfl⟩
   obtain ⟨n2, e2⟩ : ∃ n, (digs 10000 y).length = n := ⟨_, rfl⟩
   rw [e1] at H1
   rw [e2] at H2
   simp only [e1, e2]
   clear e1 e2
   go_wp2_with fail
   have r1 : Blk ((w1.alloc (.cells #[.bool na, .slice a1 n1 k1] 144)).alloc (.cells #[.bool nb, .slice a2 n2 k2] 144)) w1.heap.size #[.bool na, .slice a1 n1 k1] 144 := (Blk.new w1 _ _).alloc _
   have r2 : Blk ((w1.alloc (.cells #[.bool na, .slice a1 n1 k1] 144)).alloc (.cells #[.bool nb, .slice a2 n2 k2] 144)) (w1.heap.size + 1) #[.bool nb, .slice a2 n2 k2] 144 := Blk.newAt _ _ _ (by simp)
   have rb := Hbl.out (.cells #[.bool na, .slice a1 n1 k1] 144) (.cells #[.bool nb, .slice a2 n2 k2] 144)
   generalize ((w1.alloc (.cells #[.bool na, .slice a1 n1 k1] 144)).alloc (.cells #[.bool nb, .slice a2 n2 k2] 144)) = W0 at *
   obtain ⟨p1, p2, _, _, _⟩ := blk2 r1
   obtain ⟨q1, q2, _, _, _⟩ := blk2 r2
   have R1 := Lib.hid r1
   have R2 := Lib.hid r2
   have RB := Lib.hid rb
   clear r1 r2 rb
   go_region_held3 (fun w' => (w'.cell? ⟨w1.heap.size, 0, none⟩ = some (.bool na) ∧ w'.cell? ⟨w1.heap.size, 1, none⟩ = some (.slice a1 n1 k1)) ∧ (w'.cell? ⟨w1.heap.size + 1, 0, none⟩ = some (.bool nb) ∧ w'.cell? ⟨w1.heap.size + 1, 1, none⟩ = some (.slice a2 n2 k2))) (go_keep)
    ((first
      | (go_at_call 150; refine (numTimes_any x y _ _ _ (H1.out.below RB.out.drew) (H2.out.below RB.out.drew) (by have := Hla.out; omega) (by have := Hlb.out; omega) (from_own (H2.out.below RB.out.drew))).mono ?_
         rintro e w6 ⟨v6, rfl, hr6, hf6, hb6⟩
         obtain ⟨u1, u2, u3, u4, _⟩ := blk2 (Blk.below (w := W0.drew) R1.out hb6 R1.out.lt)
         obtain ⟨z1, z2, z3, z4, _⟩ := blk2 (Blk.below (w := W0.drew) R2.out hb6 R2.out.lt)
         obtain ⟨a6, k6, rfl, _⟩ := hr6.open'
         have HR6 := Lib.hid hr6
         have HB6 := Lib.hid hb6
         clear hr6 hf6 hb6)
      | (go_at_call 129; refine (text_any _ _ _ _ HR6.out (((Hg.out.below HB.out).below RB.out.drew).below HB6.out) (by have := Hz.out; omega)).mono ?_
         rintro e w7 ⟨rfl, hb7⟩
         obtain ⟨u1, u2, u3, u4, _⟩ := blk2 ((Blk.below (w := W0.drew) R1.out HB6.out R1.out.lt).below hb7 (Nat.lt_of_lt_of_le R1.out.lt HB6.out.size))
         obtain ⟨z1, z2, z3, z4, _⟩ := blk2 ((Blk.below (w := W0.drew) R2.out HB6.out R2.out.lt).below hb7 (Nat.lt_of_lt_of_le R2.out.lt HB6.out.size))
         have HB7 := Lib.hid hb7
         clear hb7)))
   all_goals go_wp2
   all_goals go_ret2
   all_goals refine ⟨rfl, ?_⟩
   all_goals
    have s1 := RB.out.size
    have s6 := HB6.out.size
    exact HB.out.trans ((RB.out.mono hs1).drew.trans ((HB6.out.mono (Nat.le_trans hs1 s1)).trans (HB7.out.mono (Nat.le_trans (Nat.le_trans hs1 s1) s6))))
 · have hr : iMul a b = (ByteArray.empty, 30) := by unfold iMul; rw [if_neg h]
   rw [hr]
   have hB := Lib.hid (fun w => both_no a b (Bool.not_eq_true _ ▸ h) w hsa hsb)
   clear h hr hsa hsb hg
   go_enter Tryz.func122, Tryz.ntmps122
   go_wp2_with fail
   (with_reducible refine (hB.out _).mono ?_); rintro e w1 ⟨rfl, hb1⟩
   have HB := Lib.hid hb1
   clear hb1
   go_wp2
   go_ret2
   refine ⟨rfl, ?_⟩
   have := HB.out.size
   exact (HB.out.alloc (by omega) _).alloc (by simp; omega) _
theorem chkI_ok {s : Int} (h : s.natAbs < BIG) : chkI s = (ofI s, 0) := by unfold chkI; rw [if_pos h]
theorem div_small {x y : Nat} (hy : 0 < y) (hx : x < BIG) (na nb : Bool) : (sgn na x / sgn nb y).natAbs < BIG := by
 cases na
 · rw [show sgn false x = (x : Int) from rfl, (div_sizes_pos x nb y).1, sgn_abs]
   exact Nat.lt_of_le_of_lt (Nat.div_le_self _ _) hx
 · rw [show sgn true x = -(x : Int) from rfl, (div_sizes_neg hy nb).1, sgn_abs]
   split
   · exact Nat.lt_of_le_of_lt (Nat.div_le_self _ _) hx
   · rename_i h
     have h2 : 2 ≤ y := by
      rcases Nat.lt_or_ge 1 y with h3 | h3
      · exact h3
      · have : y = 1 := by omega
        subst this; rw [Nat.mod_one] at h; exact absurd rfl h
     have h3 : x / y ≤ x / 2 := Nat.div_le_div_left h2 (by decide)
     have h4 : x ≠ 0 := by intro e; subst e; simp at h
     omega
theorem mod_small {x y : Nat} (hy : 0 < y) (hY : y < BIG) (na nb : Bool) : (sgn na x % sgn nb y).natAbs < BIG := by
 have hm := Nat.mod_lt x hy
 cases na
 · rw [show sgn false x = (x : Int) from rfl, (div_sizes_pos x nb y).2, Int.natAbs_natCast]; omega
 · rw [show sgn true x = -(x : Int) from rfl, (div_sizes_neg hy nb).2, Int.natAbs_natCast]
   split <;> omega
theorem digs_len_le_succ (n : Nat) : (digs 10000 n).length ≤ (digs 10000 (n + 1)).length := by
 obtain ⟨k, hk⟩ : ∃ k, (digs 10000 (n + 1)).length = k := ⟨_, rfl⟩
 rw [hk]
 have := (digs_length_le (B := 10000) (by decide) (n + 1) k).1 (by omega)
 exact (digs_length_le (by decide) n k).2 (by omega)
def DivPost (s r : Int) (w : World) (e : Ending) (w' : World) : Prop := e = .returned (.tuple #[.string (ofI s), .string (ofI r), .int .i64 0]) ∧ Below w.heap.size w w'
set_option maxRecDepth 100000 in
set_option maxHeartbeats 2000000 in
theorem div_pos (nb : Bool) (x y : Nat) (hy0 : 0 < y)  (hxB : x < BIG) (hyB : y < BIG) (a b : ByteArray) (w : World) (hg : Glob w)
 (hB : Hid (∀ w, Calls Tryz.prog 127 #[.string a, .string b] w fun e w' => ∃ v1 v2, e = .returned (.tuple #[.agg #[.bool false, v1], .agg #[.bool nb, v2], .bool true]) ∧ Rd encN w' v1 (digs 10000 x) ∧ Rd encN w' v2 (digs 10000 y) ∧ From w.heap.size v1 ∧ From w.heap.size v2 ∧ Below w.heap.size w w')) :
 Calls Tryz.prog 107 #[.string a, .string b] w (DivPost (sgn false x / sgn nb y) (sgn false x % sgn nb y) w) := by
 have hq : chkI (sgn nb (x / y)) = (ofI (sgn false x / sgn nb y), 0) := by
  rw [← chkI_ok (div_small hy0 hxB _ _)]; congr 1; exact (by rw [show sgn false x = (x : Int) from rfl, (div_sizes_pos x nb y).1])
 have hr : chkI (sgn false (x % y)) = (ofI (sgn false x % sgn nb y), 0) := by
  rw [← chkI_ok (mod_small hy0 hyB _ _)]; congr 1; rw [show sgn false x = (x : Int) from rfl, (div_sizes_pos x nb y).2]; rfl
 generalize sgn false x / sgn nb y = sq at *
 generalize sgn false x % sgn nb y = sr at *
 have Hq := Lib.hid hq
 have Hr := Lib.hid hr
 have hla := digs_len_BIG hxB
 have hlb := digs_len_BIG hyB
 have hlq : (digs 10000 (x / y)).length ≤ 51 := digs_len_two (by have := Nat.div_le_self x y; omega)
 have hlr : (digs 10000 (x % y)).length ≤ 50 := digs_len_BIG (by have := Nat.mod_lt x hy0; omega)
 have hn2 : 0 < (digs 10000 y).length := by
  rcases Nat.eq_zero_or_pos (digs 10000 y).length with h | h
  · have := (digs_eq_nil (B := 10000) (by decide)).1 (List.eq_nil_of_length_eq_zero h); omega
  · exact h
 have Hla := Lib.hid hla
 have Hlb := Lib.hid hlb
 have Hlq := Lib.hid hlq
 have Hlr := Lib.hid hlr
 have Hg := Lib.hid hg
 have Hy0 := Lib.hid hy0
 clear hq hr hla hlb hlq hlr hg hxB hyB hy0
 have hmx : Tryz.prog.follows .mixedOrders = true := by kernel_rfl
 obtain ⟨n1, e1⟩ : ∃ n, (digs 10000 x).length = n := ⟨_, rfl⟩
 obtain ⟨n2, e2⟩ : ∃ n, (digs 10000 y).length = n := ⟨_, rfl⟩
 rw [e2] at hn2
 have c1 : ((n2 : Int) == 0) = false := by rw [beq_eq_false_iff_ne]; omega
 have E1 := Lib.hid e1
 have E2 := Lib.hid e2
 clear e1 e2
 go_enter Tryz.func107, Tryz.ntmps107
 go_wp2_with fail
 (with_reducible refine (hB.out _).mono ?_); rintro e w1 ⟨v1, v2, rfl, hr1, hr2, hf1, hf2, hb1⟩
 obtain ⟨a1, k1, rfl, _⟩ := hr1.open'
 obtain ⟨a2, k2, rfl, _⟩ := hr2.open'
 rw [E1.out] at hr1
 rw [E2.out] at hr2
 simp only [E1.out, E2.out]
 have H1 := Lib.hid hr1
 have H2 := Lib.hid hr2
 have HB := Lib.hid hb1
 have hs1 := hb1.size
 clear hr1 hr2 hf1 hf2 hb1
 have hbl : ∀ o1 o2, Below w1.heap.size w1 ((w1.alloc o1).alloc o2) := fun o1 o2 => ((Below.refl _ _).alloc (Nat.le_refl _) _).alloc (by simp) _
 have Hbl := Lib.hid hbl
 clear hbl
 go_wp2_with fail
 have r1 : Blk ((w1.alloc (.cells #[.bool false, .slice a1 n1 k1] 144)).alloc (.cells #[.bool nb, .slice a2 n2 k2] 144)) w1.heap.size #[.bool false, .slice a1 n1 k1] 144 := (Blk.new w1 _ _).alloc _
 have r2 : Blk ((w1.alloc (.cells #[.bool false, .slice a1 n1 k1] 144)).alloc (.cells #[.bool nb, .slice a2 n2 k2] 144)) (w1.heap.size + 1) #[.bool nb, .slice a2 n2 k2] 144 := Blk.newAt _ _ _ (by simp)
 have rb := Hbl.out (.cells #[.bool false, .slice a1 n1 k1] 144) (.cells #[.bool nb, .slice a2 n2 k2] 144)
 generalize ((w1.alloc (.cells #[.bool false, .slice a1 n1 k1] 144)).alloc (.cells #[.bool nb, .slice a2 n2 k2] 144)) = W0 at *
 refine (numOver_any x y Hy0.out _ _ _ (H1.out.below rb) (H2.out.below rb) (by have := Hla.out; omega) (by have := Hlb.out; omega) (from_own (H1.out.below rb))).mono ?_
 rintro e W2 ⟨v3, v4, rfl, hr3, hr4, hf3, hf4, hb2⟩
 have R1 := Lib.hid (r1.below hb2 r1.lt)
 have R2 := Lib.hid (r2.below hb2 r2.lt)
 have s2 := hb2.size
 have s1 := rb.size
 have RB := Lib.hid (rb.trans (hb2.mono s1))
 clear r1 r2 rb hb2 hf3 hf4
 obtain ⟨a4, k4, rfl, _⟩ := hr4.open'
 obtain ⟨n4, e4⟩ : ∃ n, (digs 10000 (x % y)).length = n := ⟨_, rfl⟩
 rw [e4] at hr4
 simp only [e4]
 clear e4
 obtain ⟨a3, k3, rfl, _⟩ := hr3.open'
 have HR3 := Lib.hid hr3
 have HR4 := Lib.hid hr4
 have HGx := Lib.hid ((Hg.out.below HB.out).below RB.out)
 have HBx := Lib.hid (HB.out.trans (RB.out.mono hs1))
 clear hr3 hr4
 obtain ⟨p1, p2, _, _, _⟩ := blk2 R1.out
 obtain ⟨q1, q2, _, _, _⟩ := blk2 R2.out
 go_wp2_with fail
 refine (text_any _ _ _ _ HR3.out HGx.out (by have := Hlq.out; omega)).mono ?_
 rw [Hq.out]
 rintro e W6 ⟨rfl, hb6⟩
 have HR4' := Lib.hid (HR4.out.below hb6)
 have HG6 := Lib.hid (HGx.out.below hb6)
 have HB6 := Lib.hid (HBx.out.trans (hb6.mono HBx.out.size))
 clear hb6
 go_wp2_with fail
 refine (text_any _ _ _ _ HR4'.out HG6.out (by have := Hlr.out; omega)).mono ?_
 rw [Hr.out]
 rintro e W7 ⟨rfl, hb7⟩
 have HB7 := Lib.hid (HB6.out.trans (hb7.mono HB6.out.size))
 clear hb7
 go_wp2
 go_ret3
 exact ⟨rfl, HB7.out⟩
set_option maxRecDepth 100000 in
set_option maxHeartbeats 2000000 in
theorem div_zero (nb : Bool) (x y : Nat) (hy0 : 0 < y) (h0 : x % y = 0) (hxB : x < BIG) (hyB : y < BIG) (a b : ByteArray) (w : World) (hg : Glob w)
 (hB : Hid (∀ w, Calls Tryz.prog 127 #[.string a, .string b] w fun e w' => ∃ v1 v2, e = .returned (.tuple #[.agg #[.bool true, v1], .agg #[.bool nb, v2], .bool true]) ∧ Rd encN w' v1 (digs 10000 x) ∧ Rd encN w' v2 (digs 10000 y) ∧ From w.heap.size v1 ∧ From w.heap.size v2 ∧ Below w.heap.size w w')) :
 Calls Tryz.prog 107 #[.string a, .string b] w (DivPost (sgn true x / sgn nb y) (sgn true x % sgn nb y) w) := by
 have hq : chkI (sgn (!nb) (x / y)) = (ofI (sgn true x / sgn nb y), 0) := by
  rw [← chkI_ok (div_small hy0 hxB _ _)]; congr 1; exact (by rw [show sgn true x = -(x : Int) from rfl, (div_sizes_neg hy0 nb).1, if_pos h0])
 have hr : chkI (sgn false (x % y)) = (ofI (sgn true x % sgn nb y), 0) := by
  rw [← chkI_ok (mod_small hy0 hyB _ _)]; congr 1; rw [show sgn true x = -(x : Int) from rfl, (div_sizes_neg hy0 nb).2, if_pos h0, h0]; rfl
 generalize sgn true x / sgn nb y = sq at *
 generalize sgn true x % sgn nb y = sr at *
 have Hq := Lib.hid hq
 have Hr := Lib.hid hr
 have hla := digs_len_BIG hxB
 have hlb := digs_len_BIG hyB
 have hlq : (digs 10000 (x / y)).length ≤ 51 := digs_len_two (by have := Nat.div_le_self x y; omega)
 have hlr : (digs 10000 (x % y)).length ≤ 50 := digs_len_BIG (by have := Nat.mod_lt x hy0; omega)
 have hn2 : 0 < (digs 10000 y).length := by
  rcases Nat.eq_zero_or_pos (digs 10000 y).length with h | h
  · have := (digs_eq_nil (B := 10000) (by decide)).1 (List.eq_nil_of_length_eq_zero h); omega
  · exact h
 have Hla := Lib.hid hla
 have Hlb := Lib.hid hlb
 have Hlq := Lib.hid hlq
 have Hlr := Lib.hid hlr
 have Hg := Lib.hid hg
 have Hy0 := Lib.hid hy0
 have H0 := Lib.hid h0
 clear h0
 clear hq hr hla hlb hlq hlr hg hxB hyB hy0
 have hmx : Tryz.prog.follows .mixedOrders = true := by kernel_rfl
 obtain ⟨n1, e1⟩ : ∃ n, (digs 10000 x).length = n := ⟨_, rfl⟩
 obtain ⟨n2, e2⟩ : ∃ n, (digs 10000 y).length = n := ⟨_, rfl⟩
 rw [e2] at hn2
 have c1 : ((n2 : Int) == 0) = false := by rw [beq_eq_false_iff_ne]; omega
 have E1 := Lib.hid e1
 have E2 := Lib.hid e2
 clear e1 e2
 go_enter Tryz.func107, Tryz.ntmps107
 go_wp2_with fail
 (with_reducible refine (hB.out _).mono ?_); rintro e w1 ⟨v1, v2, rfl, hr1, hr2, hf1, hf2, hb1⟩
 obtain ⟨a1, k1, rfl, _⟩ := hr1.open'
 obtain ⟨a2, k2, rfl, _⟩ := hr2.open'
 rw [E1.out] at hr1
 rw [E2.out] at hr2
 simp only [E1.out, E2.out]
 have H1 := Lib.hid hr1
 have H2 := Lib.hid hr2
 have HB := Lib.hid hb1
 have hs1 := hb1.size
 clear hr1 hr2 hf1 hf2 hb1
 have hbl : ∀ o1 o2, Below w1.heap.size w1 ((w1.alloc o1).alloc o2) := fun o1 o2 => ((Below.refl _ _).alloc (Nat.le_refl _) _).alloc (by simp) _
 have Hbl := Lib.hid hbl
 clear hbl
 go_wp2_with fail
 have r1 : Blk ((w1.alloc (.cells #[.bool true, .slice a1 n1 k1] 144)).alloc (.cells #[.bool nb, .slice a2 n2 k2] 144)) w1.heap.size #[.bool true, .slice a1 n1 k1] 144 := (Blk.new w1 _ _).alloc _
 have r2 : Blk ((w1.alloc (.cells #[.bool true, .slice a1 n1 k1] 144)).alloc (.cells #[.bool nb, .slice a2 n2 k2] 144)) (w1.heap.size + 1) #[.bool nb, .slice a2 n2 k2] 144 := Blk.newAt _ _ _ (by simp)
 have rb := Hbl.out (.cells #[.bool true, .slice a1 n1 k1] 144) (.cells #[.bool nb, .slice a2 n2 k2] 144)
 generalize ((w1.alloc (.cells #[.bool true, .slice a1 n1 k1] 144)).alloc (.cells #[.bool nb, .slice a2 n2 k2] 144)) = W0 at *
 refine (numOver_any x y Hy0.out _ _ _ (H1.out.below rb) (H2.out.below rb) (by have := Hla.out; omega) (by have := Hlb.out; omega) (from_own (H1.out.below rb))).mono ?_
 rintro e W2 ⟨v3, v4, rfl, hr3, hr4, hf3, hf4, hb2⟩
 have R1 := Lib.hid (r1.below hb2 r1.lt)
 have R2 := Lib.hid (r2.below hb2 r2.lt)
 have s2 := hb2.size
 have s1 := rb.size
 have RB := Lib.hid (rb.trans (hb2.mono s1))
 clear r1 r2 rb hb2 hf3 hf4
 obtain ⟨a4, k4, rfl, _⟩ := hr4.open'
 obtain ⟨n4, e4⟩ : ∃ n, (digs 10000 (x % y)).length = n := ⟨_, rfl⟩
 rw [e4] at hr4
 simp only [e4]
 obtain rfl : n4 = 0 := by rw [← e4, H0.out, digs_zero]; rfl
 clear e4
 obtain ⟨a3, k3, rfl, _⟩ := hr3.open'
 have HR3 := Lib.hid hr3
 have HR4 := Lib.hid hr4
 have HGx := Lib.hid ((Hg.out.below HB.out).below RB.out)
 have HBx := Lib.hid (HB.out.trans (RB.out.mono hs1))
 clear hr3 hr4
 obtain ⟨p1, p2, _, _, _⟩ := blk2 R1.out
 obtain ⟨q1, q2, _, _, _⟩ := blk2 R2.out
 go_wp2_with fail
 refine (text_any _ _ _ _ HR3.out HGx.out (by have := Hlq.out; omega)).mono ?_
 rw [Hq.out]
 rintro e W6 ⟨rfl, hb6⟩
 have HR4' := Lib.hid (HR4.out.below hb6)
 have HG6 := Lib.hid (HGx.out.below hb6)
 have HB6 := Lib.hid (HBx.out.trans (hb6.mono HBx.out.size))
 clear hb6
 go_wp2_with fail
 refine (text_any _ _ _ _ HR4'.out HG6.out (by have := Hlr.out; omega)).mono ?_
 rw [Hr.out]
 rintro e W7 ⟨rfl, hb7⟩
 have HB7 := Lib.hid (HB6.out.trans (hb7.mono HB6.out.size))
 clear hb7
 go_wp2
 go_ret3
 exact ⟨rfl, HB7.out⟩
set_option maxRecDepth 100000 in
set_option maxHeartbeats 2000000 in
theorem div_rest (nb : Bool) (x y : Nat) (hy0 : 0 < y) (h0 : x % y ≠ 0) (hxB : x < BIG) (hyB : y < BIG) (a b : ByteArray) (w : World) (hg : Glob w)
 (hB : Hid (∀ w, Calls Tryz.prog 127 #[.string a, .string b] w fun e w' => ∃ v1 v2, e = .returned (.tuple #[.agg #[.bool true, v1], .agg #[.bool nb, v2], .bool true]) ∧ Rd encN w' v1 (digs 10000 x) ∧ Rd encN w' v2 (digs 10000 y) ∧ From w.heap.size v1 ∧ From w.heap.size v2 ∧ Below w.heap.size w w')) :
 Calls Tryz.prog 107 #[.string a, .string b] w (DivPost (sgn true x / sgn nb y) (sgn true x % sgn nb y) w) := by
 have hq : chkI (sgn (!nb) (x / y + 1)) = (ofI (sgn true x / sgn nb y), 0) := by
  rw [← chkI_ok (div_small hy0 hxB _ _)]; congr 1; exact (by rw [show sgn true x = -(x : Int) from rfl, (div_sizes_neg hy0 nb).1, if_neg h0])
 have hr : chkI (sgn false (y - x % y)) = (ofI (sgn true x % sgn nb y), 0) := by
  rw [← chkI_ok (mod_small hy0 hyB _ _)]; congr 1; rw [show sgn true x = -(x : Int) from rfl, (div_sizes_neg hy0 nb).2, if_neg h0]; rfl
 generalize sgn true x / sgn nb y = sq at *
 generalize sgn true x % sgn nb y = sr at *
 have Hq := Lib.hid hq
 have Hr := Lib.hid hr
 have hla := digs_len_BIG hxB
 have hlb := digs_len_BIG hyB
 have hlq : (digs 10000 (x / y + 1)).length ≤ 51 := digs_len_two (by have := Nat.div_le_self x y; omega)
 have hlr2 : (digs 10000 (x % y)).length ≤ 50 := digs_len_BIG (by have := Nat.mod_lt x hy0; omega)
 have Hlr2 := Lib.hid hlr2
 clear hlr2
 have hlr : (digs 10000 (y - x % y)).length ≤ 50 := digs_len_BIG (by have := Nat.mod_lt x hy0; omega)
 have hn2 : 0 < (digs 10000 y).length := by
  rcases Nat.eq_zero_or_pos (digs 10000 y).length with h | h
  · have := (digs_eq_nil (B := 10000) (by decide)).1 (List.eq_nil_of_length_eq_zero h); omega
  · exact h
 have Hla := Lib.hid hla
 have Hlb := Lib.hid hlb
 have Hlq := Lib.hid hlq
 have Hlr := Lib.hid hlr
 have Hg := Lib.hid hg
 have Hy0 := Lib.hid hy0
 have H0 := Lib.hid h0
 clear h0
 clear hq hr hla hlb hlq hlr hg hxB hyB hy0
 have hmx : Tryz.prog.follows .mixedOrders = true := by kernel_rfl
 obtain ⟨n1, e1⟩ : ∃ n, (digs 10000 x).length = n := ⟨_, rfl⟩
 obtain ⟨n2, e2⟩ : ∃ n, (digs 10000 y).length = n := ⟨_, rfl⟩
 rw [e2] at hn2
 have c1 : ((n2 : Int) == 0) = false := by rw [beq_eq_false_iff_ne]; omega
 have E1 := Lib.hid e1
 have E2 := Lib.hid e2
 clear e1 e2
 go_enter Tryz.func107, Tryz.ntmps107
 go_wp2_with fail
 (with_reducible refine (hB.out _).mono ?_); rintro e w1 ⟨v1, v2, rfl, hr1, hr2, hf1, hf2, hb1⟩
 obtain ⟨a1, k1, rfl, _⟩ := hr1.open'
 obtain ⟨a2, k2, rfl, _⟩ := hr2.open'
 rw [E1.out] at hr1
 rw [E2.out] at hr2
 simp only [E1.out, E2.out]
 have H1 := Lib.hid hr1
 have H2 := Lib.hid hr2
 have HB := Lib.hid hb1
 have hs1 := hb1.size
 clear hr1 hr2 hf1 hf2 hb1
 have hbl : ∀ o1 o2, Below w1.heap.size w1 ((w1.alloc o1).alloc o2) := fun o1 o2 => ((Below.refl _ _).alloc (Nat.le_refl _) _).alloc (by simp) _
 have Hbl := Lib.hid hbl
 clear hbl
 go_wp2_with fail
 have r1 : Blk ((w1.alloc (.cells #[.bool true, .slice a1 n1 k1] 144)).alloc (.cells #[.bool nb, .slice a2 n2 k2] 144)) w1.heap.size #[.bool true, .slice a1 n1 k1] 144 := (Blk.new w1 _ _).alloc _
 have r2 : Blk ((w1.alloc (.cells #[.bool true, .slice a1 n1 k1] 144)).alloc (.cells #[.bool nb, .slice a2 n2 k2] 144)) (w1.heap.size + 1) #[.bool nb, .slice a2 n2 k2] 144 := Blk.newAt _ _ _ (by simp)
 have rb := Hbl.out (.cells #[.bool true, .slice a1 n1 k1] 144) (.cells #[.bool nb, .slice a2 n2 k2] 144)
 generalize ((w1.alloc (.cells #[.bool true, .slice a1 n1 k1] 144)).alloc (.cells #[.bool nb, .slice a2 n2 k2] 144)) = W0 at *
 refine (numOver_any x y Hy0.out _ _ _ (H1.out.below rb) (H2.out.below rb) (by have := Hla.out; omega) (by have := Hlb.out; omega) (from_own (H1.out.below rb))).mono ?_
 rintro e W2 ⟨v3, v4, rfl, hr3, hr4, hf3, hf4, hb2⟩
 have R1 := Lib.hid (r1.below hb2 r1.lt)
 have R2 := Lib.hid (r2.below hb2 r2.lt)
 have s2 := hb2.size
 have s1 := rb.size
 have RB := Lib.hid (rb.trans (hb2.mono s1))
 clear r1 r2 rb hb2 hf3 hf4
 obtain ⟨a4, k4, rfl, _⟩ := hr4.open'
 obtain ⟨n4, e4⟩ : ∃ n, (digs 10000 (x % y)).length = n := ⟨_, rfl⟩
 rw [e4] at hr4
 simp only [e4]
 have c4 : (0 : Int) < (n4 : Int) := by
  rcases Nat.eq_zero_or_pos n4 with h | h
  · rw [h] at e4
    have := (digs_eq_nil (B := 10000) (by decide)).1 (List.eq_nil_of_length_eq_zero e4)
    exact absurd this H0.out
  · omega
 have E4 := Lib.hid e4
 clear e4
 obtain ⟨a3, k3, rfl, _⟩ := hr3.open'
 have HR3' := Lib.hid hr3
 have HR4' := Lib.hid hr4
 have HGx' := Lib.hid ((Hg.out.below HB.out).below RB.out)
 have HBx' := Lib.hid (HB.out.trans (RB.out.mono hs1))
 clear hr3 hr4
 obtain ⟨p1, p2, _, _, _⟩ := blk2 R1.out
 obtain ⟨q1, q2, _, _, _⟩ := blk2 R2.out
 go_wp2
 go_region_held3 (fun w' => (w'.cell? ⟨w1.heap.size, 0, none⟩ = some (.bool true)) ∧ (w'.cell? ⟨w1.heap.size + 1, 0, none⟩ = some (.bool nb) ∧ w'.cell? ⟨w1.heap.size + 1, 1, none⟩ = some (.slice a2 n2 k2))) (go_keep)
  ((first
    | (go_at_call 135; refine (one_any _).mono ?_
       rintro e W3 ⟨v5, rfl, hr5, hf5, hb5⟩
       have S1 := Lib.hid (Blk.below (w := W2.drew) R1.out hb5 R1.out.lt)
       have S2 := Lib.hid (Blk.below (w := W2.drew) R2.out hb5 R2.out.lt)
       obtain ⟨u1, u2, _, _, _⟩ := blk2 S1.out
       obtain ⟨z1, z2, _, _, _⟩ := blk2 S2.out
       have HR5 := Lib.hid hr5
       have HB5 := Lib.hid hb5
       clear hr5 hf5 hb5)
    | (go_at_call 134; refine (numPlus_any (x / y) 1 _ _ _ (HR3'.out.below ((Below.refl _ W2).drew.trans HB5.out)) HR5.out (by have := Hlq.out; have := digs_len_le_succ (x / y); omega) (by rw [digs_digit (B := 10000) (d := 1) (by decide) (by decide) (by decide)]; decide)).mono ?_
       rintro e W4 ⟨v6, rfl, hr6, hf6, hb6⟩
       have T1 := Lib.hid (Blk.below S1.out hb6 S1.out.lt)
       have T2 := Lib.hid (Blk.below S2.out hb6 S2.out.lt)
       obtain ⟨u1, u2, _, _, _⟩ := blk2 T1.out
       obtain ⟨z1, z2, _, _, _⟩ := blk2 T2.out
       obtain ⟨a6, k6, rfl, _⟩ := hr6.open'
       have HR6 := Lib.hid hr6
       have HB6 := Lib.hid (HB5.out.trans (hb6.mono HB5.out.size))
       clear hr6 hf6 hb6)
    | (go_at_call 136; refine (numMinus_any y (x % y) (Nat.le_of_lt (Nat.mod_lt x Hy0.out)) _ _ _ (H2.out.below ((RB.out.drew).trans (HB6.out.mono RB.out.size))) (HR4'.out.below ((Below.refl _ W2).drew.trans HB6.out)) (by have := Hlb.out; omega) (by have := Hlr2.out; omega)).mono ?_
       rintro e W5 ⟨v7, rfl, hr7, hf7, hb7⟩
       have U1 := Lib.hid (Blk.below T1.out hb7 T1.out.lt)
       have U2 := Lib.hid (Blk.below T2.out hb7 T2.out.lt)
       obtain ⟨u1, u2, _, _, _⟩ := blk2 U1.out
       obtain ⟨z1, z2, _, _, _⟩ := blk2 U2.out
       obtain ⟨a7, k7, rfl, _⟩ := hr7.open'
       have HR7 := Lib.hid hr7
       have HR6' := Lib.hid (HR6.out.below hb7)
       have HB7 := Lib.hid (HB6.out.trans (hb7.mono HB6.out.size))
       clear hr7 hf7 hb7)))
 go_wp2_with fail
 have HR3 := HR6'
 have HR4 := HR7
 have HGx := Lib.hid ((HGx'.out.below (Below.refl _ W2).drew).below HB7.out)
 have HBx := Lib.hid (HBx'.out.drew.trans (HB7.out.mono HBx'.out.size))
 refine (text_any _ _ _ _ HR3.out HGx.out (by have := Hlq.out; omega)).mono ?_
 rw [Hq.out]
 rintro e W6 ⟨rfl, hb6⟩
 have HR4' := Lib.hid (HR4.out.below hb6)
 have HG6 := Lib.hid (HGx.out.below hb6)
 have HB6 := Lib.hid (HBx.out.trans (hb6.mono HBx.out.size))
 clear hb6
 go_wp2_with fail
 refine (text_any _ _ _ _ HR4'.out HG6.out (by have := Hlr.out; omega)).mono ?_
 rw [Hr.out]
 rintro e W7 ⟨rfl, hb7⟩
 have HB7 := Lib.hid (HB6.out.trans (hb7.mono HB6.out.size))
 clear hb7
 go_wp2
 go_ret3
 exact ⟨rfl, HB7.out⟩
abbrev vDivI (r : ByteArray × ByteArray × Int) : Value := .tuple #[.string r.1, .string r.2.1, .int .i64 r.2.2]
theorem iDivNo {a b : ByteArray} (h : (vS a && vS b) = false ∨ nS b = 0) : iDiv a b = (ByteArray.empty, ByteArray.empty, 30) := by
 unfold iDiv
 rcases h with h | h
 · rw [h]; rfl
 · simp [h]
theorem iDivYes {a b : ByteArray} (ha : vS a = true) (hb : vS b = true) (h : nS b ≠ 0) : iDiv a b = (ofI (nS a / nS b), ofI (nS a % nS b), 0) := by simp [iDiv, ha, hb, h]
set_option maxRecDepth 100000 in
theorem intDiv_any (a b : ByteArray) (w : World) (hg : Glob w) (hsa : a.size ≤ maxLen) (hsb : b.size ≤ maxLen) :
 Calls Tryz.prog 107 #[.string a, .string b] w fun e w' => e = .returned (vDivI (iDiv a b)) ∧ Below w.heap.size w w' := by
 by_cases h : (vS a && vS b) = true
 · obtain ⟨ha, hb⟩ := both_vals h
   have hB := Lib.hid (fun w => both_yes a b ha hb w)
   have hna := nS_sgn a
   have hnb := nS_sgn b
   by_cases h0 : nS b = 0
   · rw [iDivNo (.inr h0)]
     have hy : (nS b).natAbs = 0 := by rw [h0]; rfl
     rw [hy] at hB
     generalize negB a.data.toList = na at *
     generalize negB b.data.toList = nb at *
     generalize (nS a).natAbs = x at *
     rw [digs_zero] at hB
     clear h ha hb hna hnb h0 hy hg hsa hsb
     go_enter Tryz.func107, Tryz.ntmps107
     go_wp2_with fail
     (with_reducible refine (hB.out _).mono ?_); rintro e w1 ⟨v1, v2, rfl, hr1, hr2, hf1, hf2, hb1⟩
     obtain ⟨a1, k1, rfl, _⟩ := hr1.open'
     obtain ⟨a2, k2, rfl, _⟩ := hr2.open'
     have HB := Lib.hid hb1
     clear hr1 hr2 hf1 hf2 hb1
     go_wp2
     go_ret3
     refine ⟨rfl, ?_⟩
     have := HB.out.size
     exact (HB.out.alloc (by omega) _).alloc (by simp; omega) _
   · rw [iDivYes ha hb h0]
     have hy0 : 0 < (nS b).natAbs := by omega
     have hxB := nS_lt ha
     have hyB := nS_lt hb
     have key : Calls Tryz.prog 107 #[.string a, .string b] w (DivPost (nS a / nS b) (nS a % nS b) w) := by
      rw [hna, hnb]
      cases hn : negB a.data.toList
      · exact div_pos _ _ _ hy0 hxB hyB a b w hg (by rw [hn] at hB; exact hB)
      · by_cases hr : (nS a).natAbs % (nS b).natAbs = 0
        · exact div_zero _ _ _ hy0 hr hxB hyB a b w hg (by rw [hn] at hB; exact hB)
        · exact div_rest _ _ _ hy0 hr hxB hyB a b w hg (by rw [hn] at hB; exact hB)
     exact key
 · rw [iDivNo (.inl (Bool.not_eq_true _ ▸ h))]
   have hB := Lib.hid (fun w => both_no a b (Bool.not_eq_true _ ▸ h) w hsa hsb)
   clear h hsa hsb hg
   go_enter Tryz.func107, Tryz.ntmps107
   go_wp2_with fail
   (with_reducible refine (hB.out _).mono ?_); rintro e w1 ⟨rfl, hb1⟩
   have HB := Lib.hid hb1
   clear hb1
   go_wp2
   go_ret3
   refine ⟨rfl, ?_⟩
   have := HB.out.size
   exact (HB.out.alloc (by omega) _).alloc (by simp; omega) _
theorem rd_inj {w : World} {v : Value} {l m : List Nat} (h : Rd encN w v l) (k : Rd encN w v m) : l = m := by
 rcases h with ⟨rfl, rfl⟩ | ⟨b, off, cap, rfl, h1, h2, h3, h4⟩
 · rcases k with ⟨_, rfl⟩ | ⟨b, off, cap, e, _⟩
   · rfl
   · cases e
 · rcases k with ⟨e, _⟩ | ⟨b', off', cap', e, k1, k2, k3, k4⟩
   · cases e
   · injection e with e1 e2 e3
     injection e1 with e1; injection e1 with e4 e5
     subst e4; subst e5
     refine List.ext_getElem e2 fun i i1 i2 => ?_
     have q1 := h4 i _ (List.getElem?_eq_getElem i1)
     have q2 := k4 i _ (List.getElem?_eq_getElem i2)
     rw [q1] at q2
     have q3 : ((l[i] : Nat) : Int) = (m[i] : Nat) := by simpa [encN] using q2
     omega
noncomputable def numOf (wr : World) (v : Value) : Nat := open Classical in if h : ∃ R, Rd encN wr v (digs 10000 R) then h.choose else 0
theorem numOf_eq {wr : World} {v : Value} {R : Nat} (h : Rd encN wr v (digs 10000 R)) : numOf wr v = R := by
 have he : ∃ R, Rd encN wr v (digs 10000 R) := ⟨R, h⟩
 unfold numOf
 rw [dif_pos he]
 exact digs_inj (by decide) (rd_inj he.choose_spec h)
def GcdI (g : Nat) (w : World) (kv lv : Value) (wr : World) : Prop :=
 ∃ (x y : Nat) (a1 : Option Addr) (c1 : Nat) (a : Option Addr) (c : Nat), kv = .slice a1 (digs 10000 x).length c1 ∧ lv = .slice a (digs 10000 y).length c ∧ Rd encN wr kv (digs 10000 x) ∧ Rd encN wr lv (digs 10000 y) ∧ Below w.heap.size w wr ∧ Nat.gcd x y = g ∧ x < BIG ∧ y < BIG
theorem gcd_lt {x y : Nat} (hx : x < BIG) (hy : y < BIG) : Nat.gcd x y < BIG := by
 by_cases h : x = 0
 · subst h; simpa using hy
 · exact Nat.lt_of_le_of_lt (Nat.gcd_le_left y (by omega)) hx
theorem iGcdYes {a b : ByteArray} (ha : vS a = true) (hb : vS b = true) : iGcd a b = (ofI (Nat.gcd (nS a).natAbs (nS b).natAbs), 0) := by simp [iGcd, ha, hb, Int.gcd]
set_option maxRecDepth 100000 in
set_option maxHeartbeats 1000000 in
theorem intGcd_any (a b : ByteArray) (w : World) (hg : Glob w) (hsa : a.size ≤ maxLen) (hsb : b.size ≤ maxLen) :
 Calls Tryz.prog 106 #[.string a, .string b] w fun e w' => e = .returned (.tuple #[.string (iGcd a b).1, .int .i64 (iGcd a b).2]) ∧ Below w.heap.size w w' := by
 by_cases h : (vS a && vS b) = true
 · obtain ⟨ha, hb⟩ := both_vals h
   rw [iGcdYes ha hb]
   have hB := Lib.hid (fun w => both_yes a b ha hb w)
   have hxB := nS_lt ha
   have hyB := nS_lt hb
   generalize negB a.data.toList = na at *
   generalize negB b.data.toList = nb at *
   generalize (nS a).natAbs = x0 at *
   generalize (nS b).natAbs = y0 at *
   obtain ⟨g, hgg⟩ : ∃ g, Nat.gcd x0 y0 = g := ⟨_, rfl⟩
   have hgB := gcd_lt hxB hyB
   rw [hgg] at hgB ⊢
   have HGB := Lib.hid (chkI_ok (s := sgn false g) (by rw [sgn_abs]; exact hgB))
   have Hgg := Lib.hid hgg
   have Hg := Lib.hid hg
   clear h ha hb hg hsa hsb hgg
   have hmx : Tryz.prog.follows .mixedOrders = true := by kernel_rfl
   go_enter Tryz.func106, Tryz.ntmps106
   go_wp2_with fail
   (with_reducible refine (hB.out _).mono ?_); rintro e w1 ⟨v1, v2, rfl, hr1, hr2, hf1, hf2, hb1⟩
   obtain ⟨a1, k1, rfl, _⟩ := hr1.open'
   obtain ⟨a2, k2, rfl, _⟩ := hr2.open'
   have H1 := Lib.hid hr1
   have H2 := Lib.hid hr2
   have HB := Lib.hid hb1
   have hs1 := hb1.size
   clear hr1 hr2 hf1 hf2 hb1
   have hbl : ∀ o1 o2, Below w1.heap.size w1 ((w1.alloc o1).alloc o2) := fun o1 o2 => ((Below.refl _ _).alloc (Nat.le_refl _) _).alloc (by simp) _
   have Hbl := Lib.hid hbl
   clear hbl
   go_wp2_with fail
   have rb := Hbl.out (.cells #[.bool na, .slice a1 (digs 10000 x0).length k1] 144) (.cells #[.bool nb, .slice a2 (digs 10000 y0).length k2] 144)
   have RB := Lib.hid rb
   clear rb
   go_quiet (fail)
   have RB2 := Lib.hid (RB.out.drewN nq)
   have HB2 := Lib.hid (HB.out.trans (RB2.out.mono hs1))
   have H1' := Lib.hid (H1.out.below RB2.out)
   have H2' := Lib.hid (H2.out.below RB2.out)
   clear H1 H2 RB RB2 Hbl
   generalize (((w1.alloc (Obj.cells #[Value.bool na, Value.slice a1 (digs 10000 x0).length k1] 144)).alloc (Obj.cells #[Value.bool nb, Value.slice a2 (digs 10000 y0).length k2] 144)).drewN nq) = W0 at *
   go_wp2
   go_loopw [9, 10] (fun kv lv wr => GcdI g w kv lv wr) (fun _ lv wr => numOf wr lv)
   case atStart => exact ⟨x0, y0, _, _, _, _, rfl, rfl, H1'.out, H2'.out, HB2.out, Hgg.out, hxB, hyB⟩
   case round =>
    obtain ⟨x, y, p1, q1, p2, q2, rfl, rfl, hrx, hry, hB3, hgx, hxb, hyb⟩ := hrel
    have Hx := Lib.hid hrx
    have Hy := Lib.hid hry
    have Hgx := Lib.hid hgx
    have hs3 := hB3.size
    have Hlx := Lib.hid (digs_len_BIG hxb)
    have Hly := Lib.hid (digs_len_BIG hyb)
    clear hrx hry hgx
    by_cases hy0 : y = 0
    · subst hy0
      have hz : (digs 10000 0).length = 0 := by rw [digs_zero]; rfl
      have e1 : g = x := by rw [← Hgx.out]; simp
      subst e1
      simp only [hz]
      clear hz
      go_wp2_with fail
      refine (text_any _ _ _ _ Hx.out (Hg.out.below hB3) (by have := Hlx.out; omega)).mono ?_
      rw [HGB.out]
      rintro e W6 ⟨rfl, hb6⟩
      have HB6 := Lib.hid (hB3.trans (hb6.mono hs3))
      clear hb6
      go_wp2
      go_ret2
      exact ⟨rfl, HB6.out⟩
    · have hl0 : 0 < (digs 10000 y).length := List.length_pos_iff.2 (fun e => hy0 ((digs_eq_nil (by decide)).1 e))
      obtain ⟨ny, hny⟩ : ∃ n, (digs 10000 y).length = n := ⟨_, rfl⟩
      rw [hny] at hl0
      have Hny := Lib.hid hny
      have Hy0 := Lib.hid hy0
      rw [hny] at Hy
      simp only [hny]
      clear hny hy0
      go_wp2_with fail
      refine (numOver_any x y (by have := Hy0.out; omega) _ _ _ Hx.out Hy.out (by have := Hlx.out; omega) (by have := Hly.out; omega) (from_own Hx.out)).mono ?_
      rintro e W2 ⟨v3, v4, rfl, hr3, hr4, hf3, hf4, hb2⟩
      obtain ⟨a4, k4, rfl, _⟩ := hr4.open'
      have HR4 := Lib.hid hr4
      have Hy2 := Lib.hid (Hy.out.below hb2)
      have HB6 := Lib.hid (hB3.trans (hb2.mono hs3))
      clear hr3 hr4 hf3 hf4 hb2
      go_wp2
      go_roundw
      case rel =>
       refine ⟨y, x % y, _, _, _, _, by rw [Hny.out], rfl, Hy2.out, HR4.out, HB6.out, ?_, hyb, ?_⟩
       · rw [← Hgx.out, Nat.gcd_comm x y, Nat.gcd_rec y x, Nat.gcd_comm]
       · have := Nat.mod_lt x (show y > 0 by have := Hy0.out; omega); omega
      case measure =>
       rw [numOf_eq HR4.out, numOf_eq Hy.out]
       exact Nat.mod_lt x (by have := Hy0.out; omega)
 · have hr : iGcd a b = (ByteArray.empty, 30) := by unfold iGcd; rw [if_neg h]
   rw [hr]
   have hB := Lib.hid (fun w => both_no a b (Bool.not_eq_true _ ▸ h) w hsa hsb)
   clear h hr hsa hsb hg
   go_enter Tryz.func106, Tryz.ntmps106
   go_wp2_with fail
   (with_reducible refine (hB.out _).mono ?_); rintro e w1 ⟨rfl, hb1⟩
   have HB := Lib.hid hb1
   clear hb1
   go_wp2
   go_ret2
   refine ⟨rfl, ?_⟩
   have := HB.out.size
   exact (HB.out.alloc (by omega) _).alloc (by simp; omega) _
theorem eq48 {s : ByteArray} (h : vS s = true) : (s.toList == [48]) = decide (nS s = 0) := by
 rw [Bool.eq_iff_iff, beq_iff_eq, decide_eq_true_eq, nS_zero_iff h, ba_toList]
 constructor
 · intro e; exact ba_ext (by rw [e])
 · intro e; rw [e]
theorem eq49 {s : ByteArray} (h : vS s = true) : (s.toList == [49]) = decide (nS s = 1) := by
 rw [Bool.eq_iff_iff, beq_iff_eq, decide_eq_true_eq, nS_one_iff h, ba_toList]
 constructor
 · intro e; exact ba_ext (by rw [e])
 · intro e; rw [e]
theorem vS_zero : vS ⟨#[48]⟩ = true := by decide
theorem nS_zero' : nS ⟨#[48]⟩ = 0 := by rw [← ofI_zero, nS_ofI]
theorem nS_one' : nS ⟨#[49]⟩ = 1 := by rw [← ofI_one, nS_ofI]
theorem intValid_is {s : ByteArray} {b : Bool} (h : vS s = b) (w : World) (hs : s.size ≤ maxLen) : Calls Tryz.prog 104 #[.string s] w fun e w' => e = .returned (.bool b) ∧ Below w.heap.size w w' := by
 have := intValid_any s w hs; rwa [h] at this
theorem iCmp_zero {s : ByteArray} (h : vS s = true) : iCmp s ⟨#[48]⟩ = cmpI (nS s) 0 := by
 unfold iCmp; rw [if_pos (by simp [h, vS_zero]), nS_zero']
abbrev vR (a : RS) : Value := .agg #[.string a.1, .string a.2]
abbrev vRE (r : RS × Int) : Value := .tuple #[vR r.1, .int .i64 r.2]
set_option maxRecDepth 100000 in
theorem ratValid_any (a : RS) (w : World) (hg : Glob w) (hs1 : a.1.size ≤ maxLen) (hs2 : a.2.size ≤ maxLen) :
 Calls Tryz.prog 66 #[vR a] w fun e w' => e = .returned (.bool (rV a)) ∧ Below w.heap.size w w' := by
 obtain ⟨n, d⟩ := a
 simp only at hs1 hs2
 show Calls _ _ #[.agg #[.string n, .string d]] _ _
 have HR : Hid (∀ w1, Below (w.heap.size + 1) (w.alloc (.cells #[.string n, .string d] 26)) w1 → Blk w1 w.heap.size #[.string n, .string d] 26 ∧ Below w.heap.size w w1) :=
  Lib.hid fun w1 h1 => ⟨(Blk.new w _ _).below h1 (by omega), ((Below.refl _ w).alloc (Nat.le_refl _) _).trans (h1.mono (by omega))⟩
 cases hn : vS n with
 | false =>
   have hr : rV (n, d) = false := by simp [rV, hn]
   rw [hr]
   have H := Lib.hid (fun w => intValid_is hn w hs1)
   clear hn hr hs1 hs2 hg
   go_enter Tryz.func66, Tryz.ntmps66
   go_wp2_with fail
   (with_reducible refine (H.out _).mono ?_); rintro e w1 ⟨rfl, hb1⟩
   obtain ⟨_, hB⟩ := HR.out w1 (by simpa using hb1)
   clear hb1
   go_wp2
   go_ret
   exact ⟨rfl, hB⟩
 | true =>
   have H := Lib.hid (fun w => intValid_is hn w hs1)
   cases hd : vS d with
   | false =>
     have hr : rV (n, d) = false := by simp [rV, hd]
     rw [hr]
     have H2 := Lib.hid (fun w => intValid_is hd w hs2)
     clear hn hd hr hs1 hs2 hg
     go_enter Tryz.func66, Tryz.ntmps66
     go_wp2_with fail
     (with_reducible refine (H.out _).mono ?_); rintro e w1 ⟨rfl, hb1⟩
     have HB1 := Lib.hid (show Below (w.heap.size + 1) _ w1 by simpa using hb1)
     obtain ⟨r1, hB⟩ := HR.out w1 HB1.out
     obtain ⟨c1, c2, _, _, _⟩ := blk2 r1
     clear hb1 r1
     go_wp2_with fail
     (with_reducible refine (H2.out _).mono ?_); rintro e w2 ⟨rfl, hb2⟩
     have HB2 := Lib.hid (hB.trans (hb2.mono hB.size))
     clear hb2
     go_wp2
     go_ret
     exact ⟨rfl, HB2.out⟩
   | true =>
     have H2 := Lib.hid (fun w => intValid_is hd w hs2)
     have H3 := Lib.hid (fun w => intCompare_any d ⟨#[48]⟩ w hs2 (by decide))
     have H4 := Lib.hid (fun w hg => intGcd_any n d w hg hs1 hs2)
     rw [iCmp_zero hd] at H3
     obtain ⟨cv, hcv⟩ : ∃ c, cmpI (nS d) 0 = c := ⟨_, rfl⟩
     rw [hcv] at H3
     have Hg := Lib.hid hg
     by_cases h0 : 0 < nS d
     · have hc : ¬ cv ≤ 0 := by rw [← hcv]; unfold cmpI; rw [if_neg (by omega), if_pos h0]; omega
       have hgd : iGcd n d = (ofI (Int.gcd (nS n) (nS d)), 0) := by unfold iGcd; rw [if_pos (by simp [hn, hd])]
       rw [hgd] at H4
       have hsm : vS (ofI (Int.gcd (nS n) (nS d))) = true := vS_ofI (by
        rw [Int.natAbs_natCast]
        exact gcd_lt (nS_lt hn) (nS_lt hd))
       have heq := eq49 hsm
       rw [nS_ofI] at heq
       obtain ⟨g, hgs⟩ : ∃ g, ofI (Int.gcd (nS n) (nS d) : Int) = g := ⟨_, rfl⟩
       rw [hgs] at H4 heq
       have hr : rV (n, d) = (g.toList == [49]) := by
        rw [heq]
        simp only [rV, hn, hd, h0, decide_true, Bool.true_and]
        rw [decide_eq_decide]
        omega
       rw [hr]
       obtain ⟨bv, hbv⟩ : ∃ b, (g.toList == [49]) = b := ⟨_, rfl⟩
       rw [hbv]
       clear hn hd hr hs1 hs2 hg hcv hgd hsm heq hgs
       go_enter Tryz.func66, Tryz.ntmps66
       go_wp2_with fail
       (with_reducible refine (H.out _).mono ?_); rintro e w1 ⟨rfl, hb1⟩
       have HB1 := Lib.hid (show Below (w.heap.size + 1) (w.alloc (.cells #[.string n, .string d] 26)) w1 by simpa using hb1)
       obtain ⟨r1, hB⟩ := HR.out w1 HB1.out
       obtain ⟨c1, c2, _, _, _⟩ := blk2 r1
       have HB := Lib.hid hB
       clear hb1 r1 hB
       go_wp2_with fail
       (with_reducible refine (H2.out _).mono ?_); rintro e w2 ⟨rfl, hb2⟩
       have HB2 := Lib.hid (HB1.out.trans (hb2.mono (by simpa using HB1.out.size)))
       obtain ⟨r1, hB⟩ := HR.out w2 (by have := HB2.out; simpa using this)
       obtain ⟨d1, d2, _, _, _⟩ := blk2 r1
       clear hb2 r1 hB HB
       go_wp2_with fail
       (with_reducible refine (H3.out _).mono ?_); rintro e w3 ⟨rfl, hb3⟩
       have HB3 := Lib.hid (HB2.out.trans (hb3.mono (by simpa using HB2.out.size)))
       obtain ⟨r1, hB⟩ := HR.out w3 (by have := HB3.out; simpa using this)
       obtain ⟨e1, e2, _, _, _⟩ := blk2 r1
       have HB := Lib.hid hB
       clear hb3 r1 hB
       go_wp2_with fail
       (with_reducible refine (H4.out _ (Hg.out.below HB.out)).mono ?_); rintro e w4 ⟨rfl, hb4⟩
       have HB4 := Lib.hid (HB.out.trans (hb4.mono HB.out.size))
       clear hb4
       go_wp2
       go_ret
       exact ⟨rfl, HB4.out⟩
     · have hc : cv ≤ 0 := by { rw [← hcv]; unfold cmpI; split <;> omega }
       have hr : rV (n, d) = false := by simp [rV, h0]
       rw [hr]
       clear hn hd hr hs1 hs2 hg hcv h0 H4
       go_enter Tryz.func66, Tryz.ntmps66
       go_wp2_with fail
       (with_reducible refine (H.out _).mono ?_); rintro e w1 ⟨rfl, hb1⟩
       have HB1 := Lib.hid (show Below (w.heap.size + 1) (w.alloc (.cells #[.string n, .string d] 26)) w1 by simpa using hb1)
       obtain ⟨r1, hB⟩ := HR.out w1 HB1.out
       obtain ⟨c1, c2, _, _, _⟩ := blk2 r1
       clear hb1 r1 hB
       go_wp2_with fail
       (with_reducible refine (H2.out _).mono ?_); rintro e w2 ⟨rfl, hb2⟩
       have HB2 := Lib.hid (HB1.out.trans (hb2.mono (by simpa using HB1.out.size)))
       obtain ⟨r1, hB⟩ := HR.out w2 (by have := HB2.out; simpa using this)
       obtain ⟨d1, d2, _, _, _⟩ := blk2 r1
       clear hb2 r1 hB
       go_wp2_with fail
       (with_reducible refine (H3.out _).mono ?_); rintro e w3 ⟨rfl, hb3⟩
       have HB3 := Lib.hid (HB2.out.trans (hb3.mono (by simpa using HB2.out.size)))
       obtain ⟨r1, hB⟩ := HR.out w3 (by have := HB3.out; simpa using this)
       have HB := Lib.hid hB
       clear hb3 r1 hB
       go_wp2
       go_ret
       exact ⟨rfl, HB.out⟩
end Go.Proofs.YtnfamgpjehohaaaGreatDoor
