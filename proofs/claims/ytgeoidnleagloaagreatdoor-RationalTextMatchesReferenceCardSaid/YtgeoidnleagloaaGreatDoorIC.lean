/- Walks of slices.Backward at a number: the iterator, and the law for a loop over it. -/
import Derived.RangeFuncBox
import Derived.RangeFuncLeaves
import Derived.RangeFuncNested
import Derived.Shelf.Abstract
import Derived.OwnWalkIn
import Derived.TacticsInMore
import Derived.LoopNIn
import Derived.LoopIn
import Derived.Test.YtgeoidnleagloaaGreatDoorWL
import Derived.Test.YtgeoidnleagloaaGreatDoorProg
set_option linter.unusedVariables false
set_option linter.unusedSimpArgs false
namespace Go.Proofs.YtgeoidnleagloaaGreatDoor
open Go.RowKit Yk
attribute [local go_sem] Oper.semAt_some

/-- What has come from the end when k rounds are over. -/
def bwTo (l : List Nat) (k : Nat) : List (Nat × Nat) := (List.range k).map (fun j => (l.length - 1 - j, l.getD (l.length - 1 - j) 0))
theorem bwTo_succ (l : List Nat) (k : Nat) : bwTo l (k + 1) = bwTo l k ++ [(l.length - 1 - k, l.getD (l.length - 1 - k) 0)] := by simp [bwTo, List.range_succ]
theorem bwTo_length (l : List Nat) (k : Nat) : (bwTo l k).length = k := by simp [bwTo]
/-- A place of a list, and what stands there. -/
abbrev Place (l : List Nat) := { p : Nat × Nat // l[p.1]? = some p.2 }
abbrev encP {l : List Nat} (x : Place l) : Array Value := #[.int .i64 (x.1.1 : Int), .int .i64 (x.1.2 : Int)]

theorem bwTo_mem {l : List Nat} {k j : Nat} (hk : k ≤ l.length) (hj : j < l.length) (h : l.length - k ≤ j) : (j, l[j]) ∈ bwTo l k := by
  unfold bwTo
  rw [List.mem_map]
  refine ⟨l.length - 1 - j, List.mem_range.2 (by omega), ?_⟩
  have e : l.length - 1 - (l.length - 1 - j) = j := by omega
  rw [e]; simp [List.getElem?_eq_getElem hj]
/-- If what has come from the end agrees with another list, so do the ends. -/
theorem bw_drop {l m : List Nat} {k : Nat} {pre : List (Place l)} (hlen : l.length = m.length) (hk : k ≤ l.length) (h : pre.map (·.1) = bwTo l k) (hall : ∀ p ∈ pre, m[p.1.1]? = some p.1.2) : l.drop (l.length - k) = m.drop (l.length - k) := by
  apply List.ext_getElem
  · simp [hlen]
  · intro i h1 h2
    rw [List.length_drop] at h1 h2
    rw [List.getElem_drop, List.getElem_drop]
    have hmem := bwTo_mem (l := l) (j := l.length - k + i) hk (by omega) (by omega)
    rw [← h, List.mem_map] at hmem
    obtain ⟨p, hp, e⟩ := hmem
    have := hall p hp
    rw [e] at this
    exact ((List.getElem?_eq_some_iff.1 this).2).symm
/-- The last that has come. -/
theorem bw_last {l : List Nat} {k : Nat} {ini : List (Place l)} {last : Place l} (h : (ini ++ [last]).map (·.1) = bwTo l k) : ∃ j, k = j + 1 ∧ ini.map (·.1) = bwTo l j ∧ last.1.1 = l.length - 1 - j := by
  cases k with
  | zero => simp [bwTo] at h
  | succ j =>
    rw [bwTo_succ, List.map_append] at h
    obtain ⟨e1, e2⟩ := List.append_inj' h rfl
    simp only [List.map_cons, List.map_nil, List.cons.injEq, and_true] at e2
    exact ⟨j, rfl, e1, by rw [e2]⟩

/-- What a round over a slice in a box keeps: what lies below n₀, and the box. -/
def KpB (n₀ Bs : Nat) (A B : World) : Prop := Below n₀ A B ∧ B.heap[Bs]? = A.heap[Bs]?
theorem KpB.refl (n₀ Bs : Nat) (A : World) : KpB n₀ Bs A A := ⟨Below.refl _ _, rfl⟩
theorem KpB.trans {n₀ Bs : Nat} {A B C : World} (h : KpB n₀ Bs A B) (k : KpB n₀ Bs B C) : KpB n₀ Bs A C := ⟨h.1.trans k.1, k.2.trans h.2⟩
theorem KpB.of_below {n₀ Bs n : Nat} {A B : World} (h : Below n A B) (h0 : n₀ ≤ n) (hB : Bs < n) : KpB n₀ Bs A B := ⟨h.mono h0, h.block Bs hB⟩
theorem KpB.setCell {n₀ Bs : Nat} (A : World) {a : Addr} (h0 : n₀ ≤ a.block) (hB : a.block ≠ Bs) (u : Value) : KpB n₀ Bs A (A.setCell a u) := ⟨(Below.refl _ _).setCell h0 _, Below.heap_setCell _ _ _ _ (fun e => hB e.symm)⟩
theorem KpB.drewN {n₀ Bs : Nat} (A : World) (q : Nat) : KpB n₀ Bs A (A.drewN q) := ⟨(Below.refl _ _).drewN q, rfl⟩
theorem kpB_b {n₀ Bs : Nat} {w : World} (hn : n₀ ≤ w.heap.size) (hB : Bs < w.heap.size) (W : World) (l : Nat) (o o' : Obj) (hl : w.heap.size ≤ l) (h : W.heap[l]? = some o) (k1 : o.isCells = false) (k2 : o.isWalk = false) : KpB n₀ Bs W (W.putObj l o') :=
  ⟨belowK_b hn W l o o' hl h k1 k2, World.putObj_heap_other (by omega)⟩
theorem keepsOthers_of_below {n : Nat} {A B : World} (h : Below n A B) (hn : A.heap.size ≤ n) : KeepsOthers A B :=
  ⟨h.size, fun k o hk _ => (h.block k (by have := (Array.getElem?_eq_some_iff.1 hk).1; omega)).trans hk⟩

set_option maxRecDepth 100000 in
set_option maxHeartbeats 2000000 in
theorem backward1_in (F : Fence) (n : Nat) (hF : F.fn 137) (hro : F.round = none) (hn : 1 ≤ n) (l Bs n₀ b off cap : Nat) (zs : List Nat) (hreach : zs.length ≤ 1099511627776) (hb : b < n₀) (J Jx : List (Place zs) → World → Prop)
    (hY : ∀ pre x W, J pre W → pre.length < zs.length → YieldAt F (n - 1) Tryz.prog l (encP x) W fun e W' =>
      (e = .returned (.bool true) ∧ J (pre ++ [x]) W' ∧ KpB n₀ Bs W W') ∨ (e = .returned (.bool false) ∧ Jx (pre ++ [x]) W'))
    (W : World) (hBs : W.cell? ⟨Bs, 0, none⟩ = some (.slice (some ⟨b, off, none⟩) zs.length cap)) (hc : ∀ (j : Nat) x, zs[j]? = some x → W.cell? ⟨b, off + j, none⟩ = some (encN x)) (h0 : J [] W) :
    CallsIn F n Tryz.prog 137 #[.func (.yield l) #[] #[], .pointer (some ⟨Bs, 0, none⟩)] W fun e W' => (∃ v, e = .returned v) ∧
      ((∃ ys, ys.map (·.1) = bwTo zs zs.length ∧ J ys W') ∨ (∃ pre, (∃ k, k ≤ zs.length ∧ pre.map (·.1) = bwTo zs k) ∧ Jx pre W')) := by
  refine callsIn_of_wp Tryz.func137 rfl hF ?_ hro
  simp only [Tryz.ntmps137, List.size_toArray, List.length_cons, List.length_nil, Nat.reduceAdd, Nat.reduceSub, Array.replicate_succ, Array.replicate_zero, List.push_toArray, List.append_toArray, List.nil_append, List.cons_append]
  gi_wp2
  gi_loopw [3] (fun i wr => ∃ j k : Nat, ∃ pre : List (Place zs), j + k = zs.length ∧ i = .int .i64 ((j : Int) - 1) ∧ pre.map (·.1) = bwTo zs k ∧ J pre wr ∧ KpB n₀ Bs W wr)
    (fun i _ => (intOf i + 1).toNat)
  case atStart => exact ⟨zs.length, 0, [], by omega, rfl, rfl, h0, KpB.refl _ _ _⟩
  case round =>
    obtain ⟨j, k, pre, hjk, rfl, hpre, hJs, hnx⟩ := hrel
    have Hpre := Lib.hid hpre; clear hpre
    have hbs := (World.cell?_of_block (w := W) (w' := wr) (a := ⟨Bs, 0, none⟩) hnx.2).trans hBs
    cases j with
    | zero =>
      gi_wp2
      go_end0
      refine ⟨⟨_, rfl⟩, .inl ⟨pre, ?_, hJs⟩⟩
      rw [Hpre.out]; congr 1; omega
    | succ m =>
      have hm : m < zs.length := by omega
      have hcx : wr.cell? ⟨b, off + m, none⟩ = some (.int .i64 ((zs[m] : Nat) : Int)) := (hnx.1.cell (p := ⟨b, off + m, none⟩) hb).trans (hc m _ (List.getElem?_eq_getElem hm))
      obtain ⟨z, hz⟩ : ∃ z, zs[m] = z := ⟨_, rfl⟩
      rw [hz] at hcx
      have hmem : zs[m]? = some z := by rw [List.getElem?_eq_getElem hm, hz]
      obtain ⟨x, hx⟩ : ∃ x : Place zs, x.1 = (m, z) := ⟨⟨(m, z), hmem⟩, rfl⟩
      obtain ⟨fn, tmps, assign, body, hy, hR⟩ := hY pre x wr hJs (by have := congrArg List.length Hpre.out; rw [List.length_map, bwTo_length] at this; omega)
      dsimp only [encP] at hy
      rw [hx] at hy
      have Hx := Lib.hid hx
      have Hz := Lib.hid hz
      clear hz hmem hx
      have hnext : ∀ p : List (Place zs), p.map (·.1) = bwTo zs k → (p ++ [x]).map (·.1) = bwTo zs (k + 1) := by
        intro p hp
        rw [List.map_append, hp, bwTo_succ, List.map_cons, List.map_nil, Hx.out]
        have e1 : zs.length - 1 - k = m := by omega
        rw [e1]; simp [List.getElem?_eq_getElem hm, Hz.out]
      have Hnext := Lib.hid hnext; clear hnext
      gi_wp2
      refine hR.mono ?_
      rintro e W3 (⟨rfl, hJ3, hk3⟩ | ⟨rfl, hJx3⟩)
      · gi_wp2
        go_roundw
        case rel => exact ⟨m, k + 1, pre ++ [x], by omega, by simp, Hnext.out _ Hpre.out, hJ3, hnx.trans hk3⟩
        case measure => simp [intOf]
      · gi_wp2
        refine bodyPost_ret (results_none rfl _ _ _) rfl ?_
        exact ⟨⟨_, rfl⟩, .inr ⟨pre ++ [x], ⟨k + 1, by omega, Hnext.out _ Hpre.out⟩, hJx3⟩⟩

set_option maxRecDepth 100000 in
set_option maxHeartbeats 1000000 in
theorem backward1_nil_in (F : Fence) (n : Nat) (hF : F.fn 137) (hro : F.round = none) (l Bs : Nat) (J : World → Prop) (W : World) (hBs : W.cell? ⟨Bs, 0, none⟩ = some (.slice none 0 0)) (h0 : J W) :
    CallsIn F n Tryz.prog 137 #[.func (.yield l) #[] #[], .pointer (some ⟨Bs, 0, none⟩)] W fun e W' => (∃ v, e = .returned v) ∧ J W' := by
  refine callsIn_of_wp Tryz.func137 rfl hF ?_ hro
  simp only [Tryz.ntmps137, List.size_toArray, List.length_cons, List.length_nil, Nat.reduceAdd, Nat.reduceSub, Array.replicate_succ, Array.replicate_zero, List.push_toArray, List.append_toArray, List.nil_append, List.cons_append]
  gi_wp2
  gi_loopw [3] (fun i wr => i = .int .i64 (-1) ∧ J wr) (fun _ _ => 0)
  case atStart => exact ⟨rfl, h0⟩
  case round =>
    obtain ⟨rfl, hJs⟩ := hrel
    gi_wp2
    go_end0
    exact ⟨⟨_, rfl⟩, hJs⟩

/-- slices.Backward(s): the slice value is boxed; the function value captures the box. -/
theorem backward_any (a : Option Addr) (len cap : Nat) (w : World) :
    Calls Tryz.prog 106 #[.slice a len cap] w fun e w' => e = .returned (.func (.func 137) #[] #[.pointer (some ⟨w.heap.size, 0, none⟩)]) ∧ w' = w.alloc (.cells #[.slice a len cap] 98) := by
  go_enter Tryz.func106, Tryz.ntmps106
  go_wp2
  go_ret
  exact ⟨rfl, rfl⟩

theorem backward_stops (F : Fence) (n : Nat) (hF : F.fn 137) (hro : F.round = none) (hn : 1 ≤ n) (Bs n₀ : Nat) (sv : Value) (zs : List Nat) (hreach : zs.length ≤ 1099511627776) (w : World) (hBs : Bs < w.heap.size) (hn₀ : n₀ ≤ w.heap.size)
    (hc : w.cell? ⟨Bs, 0, none⟩ = some sv) (hI : Rd encN w sv zs) (hfr : ∀ k, sv.ownBlock = some k → k < n₀) :
    SeqStopsK F n Tryz.prog 137 #[.pointer (some ⟨Bs, 0, none⟩)] (fun x : Place zs => encP x) (KpB n₀ Bs) (fun ys => ys.map (·.1) = bwTo zs zs.length)
      (fun pre => ∃ k, k ≤ zs.length ∧ pre.map (·.1) = bwTo zs k) zs.length w := fun l J Jx W hW _ _ hY h0 => by
  have hc' := (hW.cell (p := ⟨Bs, 0, none⟩) hBs).trans hc
  rcases hI.below hW with ⟨rfl, rfl⟩ | ⟨b, off, cap, rfl, hb, _, _, hcs⟩
  · exact (backward1_nil_in F n hF hro l Bs (J []) W hc' h0).mono fun e W' ⟨he, hj⟩ => ⟨he, .inl ⟨[], rfl, hj⟩⟩
  · exact backward1_in F n hF hro hn l Bs n₀ b off cap zs hreach (hfr b rfl) J Jx hY W hc' hcs h0

/-- 'for i, n := range slices.Backward(s) { .. }', in a call that no fence binds. -/
theorem wp_backward {g : Operand} {ps : Array Tmp} {assign body : Code} {Q : Exit → Act → World → Prop} {a : Act} {w : World} {n : Nat} (hn : 3 ≤ n) (Bs n₀ : Nat)
    (hg : a.eval g = .func (.func 137) #[] #[.pointer (some ⟨Bs, 0, none⟩)]) (sv : Value) (zs : List Nat) (hreach : zs.length ≤ 1099511627776) (hBs : Bs < w.heap.size) (hn₀ : n₀ ≤ w.heap.size)
    (hc : w.cell? ⟨Bs, 0, none⟩ = some sv) (hI : Rd encN w sv zs) (hfr : ∀ k, sv.ownBlock = some k → k < n₀) (hps : ps.size = 2)
    (I : List (Place zs) → World → Prop) (Ix : Code → List (Place zs) → World → Prop) (hIo : OwnFrom w.heap.size I) (hIx : ∀ c, OwnFrom w.heap.size (Ix c)) (h0 : I [] w) (upd : Place zs → Array Value → Array Value)
    (hassign : ∀ (l : Nat) (x : Place zs) (W : World) (K : Act → World → Prop), K { tmps := upd x a.tmps, defers := [] } W →
      assign.wpIn (Fence.wide.inRound l) (n - 1 - 1) Tryz.prog (Exit.then K (fun _ _ _ => False)) { tmps := (ps.zip (encP x)).foldl (fun t (p, v) => t.setIfInBounds p v) a.tmps, defers := [] } W)
    (hbody : ∀ (l : Nat) (pre : List (Place zs)) (x : Place zs) (W : World), I pre W → pre.length < zs.length → body.wpIn (Fence.wide.inRound l) (n - 1 - 1) Tryz.prog (ownPostG w.heap.size (KpB n₀ Bs) I Ix (pre ++ [x]) W) { tmps := upd x a.tmps, defers := [] } W)
    (hdone : ∀ (D : Nat) (xs : List (Place zs)) (W : World), w.heap.size ≤ D → xs.map (·.1) = bwTo zs zs.length → I xs W → W.heap[D]? = some (.deferred (some [])) → Q .normal { a with defers := { target := .collected D, args := #[] } :: a.defers } W)
    (hstop : ∀ (D : Nat) (c : Code) (pre : List (Place zs)) (W : World), w.heap.size ≤ D → (∃ k, k ≤ zs.length ∧ pre.map (·.1) = bwTo zs k) → Ix c pre W → W.heap[D]? = some (.deferred (some [])) → c.wpIn Fence.wide n Tryz.prog Q { a with defers := { target := .collected D, args := #[] } :: a.defers } W) :
    (Code.rangeFunc g ps assign body).wpIn Fence.wide n Tryz.prog Q a w :=
  wpIn_rangeFunc_ownG rfl (by omega) (gf := 137) (lb := #[.pointer (some ⟨Bs, 0, none⟩)]) hg trivial (enters_of Tryz.func137 (by kernel_rfl) rfl)
    (backward_stops Fence.wide (n - 1) trivial rfl (by omega) Bs n₀ sv zs hreach w hBs hn₀ hc hI hfr) KpB.trans (kpB_b hn₀ hBs) (Below.refl _ _) (fun x => by rw [hps]; rfl) I Ix hIo hIx h0 (fun x => { tmps := upd x a.tmps, defers := [] }) hassign hbody hdone hstop
end Go.Proofs.YtgeoidnleagloaaGreatDoor
