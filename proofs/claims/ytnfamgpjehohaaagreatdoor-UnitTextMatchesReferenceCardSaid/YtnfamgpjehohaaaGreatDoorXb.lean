/- Aids for the claim. -/
import Derived.Test.YtnfamgpjehohaaaGreatDoorXa
import Derived.Scope
import Derived.ArgAppend
set_option linter.unusedVariables false
set_option linter.unusedSimpArgs false
namespace Go.Sy
open Go.RowKit
section
variable {P : Program} {W0 : World}
def NX (bl : Nat → Option Blk) (nx : Nat) : Prop := ∀ i, nx ≤ i → bl i = none
structure Trs (A : AS) (β : Nat → Loc) (A' : AS) (β' : Nat → Loc) : Prop where
 tr : Tr A.bl A.nx A'.wl β A'.bl β'
 wl : ∀ i ∈ A.wl, i ∈ A'.wl
 nx : A.nx ≤ A'.nx
 nt : A'.nt = A.nt
theorem Trs.refl (A : AS) (β : Nat → Loc) : Trs A β A β := ⟨Tr.refl _ _ _ _, fun _ h => h, Nat.le_refl _, rfl⟩
theorem Trs.trans {A B C : AS} {β γ δ : Nat → Loc} (h : Trs A β B γ) (k : Trs B γ C δ) : Trs A β C δ :=
 ⟨h.tr.trans k.tr h.nx k.wl (fun _ h => h), fun i hi => k.wl i (h.wl i hi), Nat.le_trans h.nx k.nx, k.nt.trans h.nt⟩
structure Is (W0 : World) (A : AS) (β : Nat → Loc) (a : Act) (w : World) : Prop where
 fr : FR β A a
 bc : BC W0 A.bl β w
 nx : NX A.bl A.nx
def Post (W0 : World) (A : AS) (β : Nat → Loc) (K : Exit → AS → Prop) : Exit → Act → World → Prop :=
 fun e a w => ∃ A' β', K e A' ∧ Is W0 A' β' a w ∧ Trs A β A' β'
def InlOK (P : Program) (W0 : World) (inl : Inl) : Prop :=
 ∀ (f : FuncId) (args : List SV) (bl : Nat → Option Blk) (nx : Nat) (wl : List Nat) (K : SV → (Nat → Option Blk) → Nat → List Nat → Prop) (β : Nat → Loc) (w : World),
  inl f args bl nx wl K → BC W0 bl β w → NX bl nx → (∀ s ∈ args, Live bl s) →
  Callable P f ∧ Calls P f (SV.concs β args).toArray w fun e w' => ∃ β' r bl' nx' wl', e = .returned (r.conc β') ∧ K r bl' nx' wl' ∧ BC W0 bl' β' w' ∧ NX bl' nx' ∧ Live bl' r ∧ Tr bl nx wl' β bl' β' ∧ (∀ i ∈ wl, i ∈ wl') ∧ nx ≤ nx'
theorem NX.apply {bl : Nat → Option Blk} {nx id : Nat} (h : NX bl nx) (E : Eff) (hid : id < nx + 1) (hn : nx ≤ id) : NX (applyE bl id E) (nx + 1) := by
 intro i hi
 have h0 : bl i = none := h i (by omega)
 have hne : i ≠ id := by omega
 have key : (match E.wr with
  | some (i, e, o, cs) => match bl i with
    | some B => upd bl i (B.put e o cs)
    | none => bl
  | none => bl) i = none := by
  cases hw : E.wr with
  | none => exact h0
  | some p =>
    obtain ⟨j, e, o, cs⟩ := p
    simp only []
    cases hj : bl j with
    | none => exact h0
    | some C =>
      simp only []
      have hij : i ≠ j := fun e => by rw [e, hj] at h0; cases h0
      rw [upd_ne hij]; exact h0
 unfold applyE
 cases hn : E.nw with
 | none => exact key
 | some N => exact (upd_ne hne).trans key
theorem step_bl {Γ : FuncId → Option Ctr} {ops : Array Oper} {id : Nat} {o : Oper} {A A' : AS} {f : Foot} (h : step P Γ ops id o A = some (true, A', f)) : ∃ E, A'.bl = applyE A.bl id E := by
 obtain ⟨D, _, rfl, _⟩ := step_iff.1 h
 exact ⟨D.E, rfl⟩
theorem endG_fr {β : Nat → Loc} {A : AS} {a : Act} (h : FR β A a) : FR β (endG A) a := by
 refine ⟨h.defers, h.size, ?_, ?_, ?_⟩
 · intro t s ht
   simp only [endG] at ht
   cases hg : A.og t with
   | true => rw [hg] at ht; simp at ht
   | false => rw [hg] at ht; exact h.v t s (by simpa using ht)
 · intro t u b s ht
   exfalso
   simp only [endG] at ht
   cases hg : A.og t with
   | true => rw [hg] at ht; simp at ht
   | false =>
     rw [hg] at ht
     have := (h.os t u b s (by simpa using ht)).1
     rw [hg] at this; cases this
 · intro t u b s ht
   exfalso
   simp only [endG] at ht
   cases hg : A.og t with
   | true => rw [hg] at ht; simp at ht
   | false =>
     rw [hg] at ht
     have := (h.os t u b s (by simpa using ht)).1
     rw [hg] at this; cases this
theorem FR.frame {β : Nat → Loc} {A : AS} {a : Act} (h : FR β A a) (nx : Nat) (wl : List Nat) : FR β { A with nx := nx, wl := wl } a := ⟨h.defers, h.size, h.v, h.opt, h.os⟩
theorem allN_lt {f : Nat → Bool} : ∀ {n : Nat}, allN n f = true → ∀ e, e < n → f e = true
 | 0, _, e, he => by omega
 | k + 1, h, e, he => by
   simp only [allN, Bool.and_eq_true] at h
   by_cases h2 : e = k
   · subst h2; exact h.1
   · exact allN_lt h.2 e (by omega)
theorem flat_len {f : Nat → List Value} {s : Nat} : ∀ (m : Nat), (∀ i, i < m → (f i).length = s) → ((List.range m).flatMap f).length = m * s
 | 0, _ => by simp
 | m + 1, h => by
   rw [List.range_succ, List.flatMap_append, List.length_append, flat_len m (fun i hi => h i (by omega))]
   simp [h m (by omega), Nat.add_mul]
theorem flat_get {f : Nat → List Value} {s : Nat} : ∀ (m : Nat), (∀ i, i < m → (f i).length = s) → ∀ {i o : Nat}, i < m → o < s → ((List.range m).flatMap f)[i * s + o]? = (f i)[o]?
 | 0, _, i, o, hi, _ => by omega
 | m + 1, h, i, o, hi, ho => by
   have hl := flat_len m (fun i hi => h i (by omega))
   rw [List.range_succ, List.flatMap_append]
   by_cases him : i < m
   · rw [List.getElem?_append_left (by rw [hl]; exact cell_lt him ho)]
     exact flat_get m (fun i hi => h i (by omega)) him ho
   · obtain rfl : i = m := by omega
     rw [List.getElem?_append_right (by rw [hl]; omega), hl]
     simp
def rowV (β : Nat → Loc) (get : Nat → List SV) (e m : Nat) : List Value := (List.range m).flatMap fun i => SV.concs β (get (e + i))
theorem rowV_len {β : Nat → Loc} {get : Nat → List SV} {e m s : Nat} (h : ∀ i, i < m → (get (e + i)).length = s) : (rowV β get e m).length = m * s :=
 flat_len m fun i hi => by rw [SV.concs_eq, List.length_map]; exact h i hi
theorem rowV_get {β : Nat → Loc} {get : Nat → List SV} {e m s : Nat} (h : ∀ i, i < m → (get (e + i)).length = s) {i o : Nat} (hi : i < m) (ho : o < s) : (rowV β get e m)[i * s + o]? = ((get (e + i))[o]?).map (SV.conc β) := by
 unfold rowV
 rw [flat_get (f := fun i => SV.concs β (get (e + i))) m (fun i hi => by rw [SV.concs_eq, List.length_map]; exact h i hi) hi ho, SV.concs_eq, List.getElem?_map]
theorem rowV_cell {β : Nat → Loc} {id : Nat} {B : Blk} {w : World} (q : BlkOK β id B w) {e m : Nat} (hm : e + m ≤ B.n) (j : Nat) (u : Value) (hu : (rowV β B.get e m)[j]? = some u) : w.cell? ((addr β id e 0).add j) = some u := by
 have hs : ∀ i, i < m → (B.get (e + i)).length = B.sz := fun i hi => q.len (e + i) (by omega)
 have hj : j < m * B.sz := by
  rcases Nat.lt_or_ge j (m * B.sz) with h | h
  · exact h
  · rw [List.getElem?_eq_none (by rw [rowV_len hs]; exact h)] at hu; cases hu
 have hpos : 0 < B.sz := by
  rcases Nat.eq_zero_or_pos B.sz with h | h
  · rw [h] at hj; omega
  · exact h
 have hd : j = j / B.sz * B.sz + j % B.sz := by rw [Nat.mul_comm]; exact (Nat.div_add_mod j B.sz).symm
 have hi : j / B.sz < m := (Nat.div_lt_iff_lt_mul hpos).2 hj
 have ho : j % B.sz < B.sz := Nat.mod_lt _ hpos
 rw [hd, rowV_get hs hi ho] at hu
 cases hx : (B.get (e + j / B.sz))[j % B.sz]? with
 | none => rw [hx] at hu; cases hu
 | some x =>
   rw [hx] at hu
   simp only [Option.map_some, Option.some.injEq] at hu
   have := q.val (e + j / B.sz) (by omega) _ x hx
   rw [addr_add, ← hu, ← this]
   congr 1
   unfold addr
   congr 1
   rw [q.sz]
   have : (e + j / B.sz) * B.sz = e * B.sz + j / B.sz * B.sz := Nat.add_mul _ _ _
   omega
theorem fm_congr {α β : Type} {l : List α} {f g : α → List β} (h : ∀ a ∈ l, f a = g a) : l.flatMap f = l.flatMap g := by
 rw [List.flatMap_def, List.flatMap_def, List.map_congr_left h]
theorem joinG_len {B C : Blk} {n e m s : Nat} (hB : ∀ k, k < n → (B.get k).length = s) (hC : ∀ k, k < m → (C.get (e + k)).length = s) (k : Nat) (hk : k < n + m) : (joinG B.get C.get n e k).length = s := by
 unfold joinG
 cases h : Nat.blt k n with
 | true => simp only [cond_true]; exact hB k (by simpa [Nat.blt_eq] using h)
 | false =>
   have : ¬ k < n := by rw [blt_iff] at h; simpa using h
   simp only [cond_false]; exact hC (k - n) (by omega)
theorem joinG_lt {B C : Nat → List SV} {n e k : Nat} (h : k < n) : joinG B C n e k = B k := by
 unfold joinG; rw [blt_iff, decide_eq_true h]; rfl
theorem joinG_ge {B C : Nat → List SV} {n e k : Nat} (h : ¬ k < n) : joinG B C n e k = C (e + (k - n)) := by
 unfold joinG; rw [blt_iff, decide_eq_false h]; rfl
theorem appE_sound {A : AS} {β : Nat → Loc} {w : World} (hbc : BC W0 A.bl β w) (hnx : NX A.bl A.nx) {t : TypeId} {x y r : SV} {b : Bool} {bl : Nat → Option Blk} {k : List Nat}
 (h : appE P A t x y = some (b, bl, r, k)) (hb : b = true) (ty : TypeId) :
 ∃ β' w', (Builtin.append_ #[t, t] ty #[x.conc β, y.conc β]).run P w = .ok (r.conc β') w' ∧ BC W0 bl β' w' ∧ NX bl (A.nx + 1) ∧ Live bl r ∧ Tr A.bl A.nx k β bl β' := by
 have hid : A.bl A.nx = none := hnx _ (Nat.le_refl _)
 unfold appE at h
 split at h
 · rename_i el j e m hu
   split at h
   · rename_i inf C hinf hC
     have key : C.kd ≠ .gone → (bif Nat.beq C.sz inf.size && Nat.ble 1 inf.size && Nat.ble 1 inf.bytes && (match inf.zero with
      | some z => Nat.beq z.cells.size inf.size
      | none => false) then (match x with
      | .val (.slice none 0 0) => some (decide (0 < m) && decide (e + m ≤ C.n) && decide (m * inf.bytes ≤ 140737488355328) && allN m (fun k => (C.get (e + k)).all SV.one), upd A.bl A.nx { n := m, sz := C.sz, get := fun k => C.get (e + k), kd := .own }, SV.slc A.nx 0 m, ([] : List Nat))
      | .slc i 0 n => match A.bl i with
        | some B => match B.kd with
          | .own => bif Nat.beq B.sz C.sz && !Nat.beq i j then
             some (decide (0 < m) && decide (e + m ≤ C.n) && decide (n ≤ B.n) && decide ((n + m) * inf.bytes ≤ 140737488355328) && allN m (fun k => (C.get (e + k)).all SV.one),
              upd (upd A.bl i { B with kd := .gone }) A.nx { n := n + m, sz := C.sz, get := joinG B.get C.get n e, kd := .own }, .slc A.nx 0 (n + m), [i]) else none
          | _ => none
        | none => none
      | _ => none) else none) = some (b, bl, r, k) → ∃ β' w', (Builtin.append_ #[t, t] ty #[x.conc β, (SV.slc j e m).conc β]).run P w = .ok (r.conc β') w' ∧ BC W0 bl β' w' ∧ NX bl (A.nx + 1) ∧ Live bl r ∧ Tr A.bl A.nx k β bl β' := by
      intro hCg h
      cases hc : (Nat.beq C.sz inf.size && Nat.ble 1 inf.size && Nat.ble 1 inf.bytes && (match inf.zero with
       | some z => Nat.beq z.cells.size inf.size
       | none => false)) with
      | false => rw [hc] at h; cases h
      | true =>
        rw [hc] at h
        simp only [cond_true] at h
        simp only [Bool.and_eq_true] at hc
        obtain ⟨⟨⟨c1, c2⟩, c3⟩, c4⟩ := hc
        have hsz := Nat.eq_of_beq_eq_true c1
        have hs1 := Nat.le_of_ble_eq_true c2
        have hby := Nat.le_of_ble_eq_true c3
        obtain ⟨z, hz, hzs⟩ : ∃ z, inf.zero = some z ∧ z.cells.size = inf.size := by
         cases hz : inf.zero with
         | none => rw [hz] at c4; cases c4
         | some z => rw [hz] at c4; exact ⟨z, rfl, Nat.eq_of_beq_eq_true c4⟩
        have qC := hbc.blk j C hC hCg
        have news : 0 < m → e + m ≤ C.n → allN m (fun k => (C.get (e + k)).all SV.one) = true →
         (rowV β C.get e m).length = m * inf.size ∧ (∀ i u, (rowV β C.get e m)[i]? = some u → w.cell? ((addr β j e 0).add i) = some u) ∧ (∀ u ∈ rowV β C.get e m, u.oneCell' = true) ∧ (SV.slc j e m).conc β = .slice (some (addr β j e 0)) m ((β j).cap - e) := by
         intro h0 h1 h2
         have hs : ∀ i, i < m → (C.get (e + i)).length = C.sz := fun i hi => qC.len (e + i) (by omega)
         refine ⟨by rw [rowV_len hs, hsz], fun i u hu => rowV_cell qC h1 i u hu, ?_, ?_⟩
         · intro u hu
           unfold rowV at hu
           simp only [List.mem_flatMap, List.mem_range] at hu
           obtain ⟨i, hi, hu⟩ := hu
           rw [SV.concs_eq] at hu
           obtain ⟨s, hs', rfl⟩ := List.mem_map.1 hu
           have := allN_lt h2 i hi
           exact SV.one_conc β (List.all_eq_true.1 this s hs')
         · have := qC.le
           exact conc_slc (qC.not_nil (e := e) (by omega)) (.inl (by omega))
        have fresh : ∀ (bl0 : Nat → Option Blk), BC W0 bl0 β w → bl0 A.nx = none → ∀ (N : Blk) (w' : World) (v' : Value), N.kd = .own → N.sz = C.sz → 0 < N.n → N.nn = true → (∀ e, e < N.n → (N.get e).length = C.sz) →
         (∀ (e o : Nat) (s : SV), e < N.n → (N.get e)[o]? = some s → Live bl0 s) → w'.ownsRow w.heap.size el inf.size v' N.n (rowV β N.get 0 N.n) → w.grownBy w' none →
         ∃ β', v' = (SV.slc A.nx 0 N.n).conc β' ∧ BC W0 (upd bl0 A.nx N) β' w' ∧ ∀ i, bl0 i ≠ none → β' i = β i := by
         intro bl0 h0 hid0 N w' v' k1 k2 k3 k4 k5 k6 hown hgr
         obtain ⟨_, ⟨_, h1⟩ | ⟨g, cap, cur, rfl, hg, hheap, hcap, _, hcur, htake⟩⟩ := hown
         · omega
         · have hb : Below w.heap.size w w' := ⟨hgr.os, hgr.tape, hgr.output, hgr.size, fun k hk => hgr.block k hk (by simp)⟩
           have hcell : ∀ i, w'.cell? ⟨g, i, none⟩ = cur[i]? := fun i => by simp [World.cell?, hheap]
           have hlt : g < w'.heap.size := by
            rcases Nat.lt_or_ge g w'.heap.size with h | h
            · exact h
            · rw [Array.getElem?_eq_none h] at hheap; cases hheap
           refine ⟨updL β A.nx ⟨g, 0, C.sz, cap, false⟩, ?_, ?_, fun i hi => updL_ne fun h => hi (h ▸ hid0)⟩
           · rw [conc_slc (by rw [updL_same]) (.inr rfl)]
             simp [addr, updL_same]
           · refine h0.allocW hid0 k1 (by rw [k2]; exact k5) k6 hb (by simp [k2]) hg hlt hcap (fun h => by cases h) (fun _ => rfl) ?_ ?_ ?_
             · intro i hi
               simp only [Nat.zero_add, hcell] at hi ⊢
               rw [k2, hsz] at hi
               simp [hcur, hi]
             · intro i hi
               simp [World.frozen?, hheap]
             · intro e' o s he hs
               simp only [Nat.zero_add, hcell]
               have ho : o < C.sz := by
                rcases Nat.lt_or_ge o C.sz with h' | h'
                · exact h'
                · rw [List.getElem?_eq_none (by rw [k5 e' he]; exact h')] at hs; cases hs
               have hr := rowV_get (β := β) (get := N.get) (e := 0) (m := N.n) (s := C.sz) (fun i hi => by rw [Nat.zero_add]; exact k5 i hi) he ho
               rw [Nat.zero_add, hs, ← htake] at hr
               have hlt2 := cell_lt (n := N.n) (sz := C.sz) he ho
               rw [List.getElem?_take_of_lt (by rw [hsz] at hlt2; rw [hsz]; exact hlt2)] at hr
               rw [k2]
               simpa using hr
        have maxb : ∀ q, q * inf.bytes ≤ 140737488355328 → q ≤ maxLen := fun q hq => by
         have : q * 1 ≤ q * inf.bytes := Nat.mul_le_mul_left _ hby
         simp only [maxLen]; omega
        have nxup : ∀ (bl0 : Nat → Option Blk) (N : Blk), NX bl0 A.nx → NX (upd bl0 A.nx N) (A.nx + 1) := fun bl0 N h0 i hi => by
         rw [upd_ne (by omega)]; exact h0 i (by omega)
        have liv : ∀ (bl0 : Nat → Option Blk) (N : Blk) (n : Nat), Live (upd bl0 A.nx N) (.slc A.nx 0 n) := fun bl0 N n i hi => by
         simp only [SV.ids, List.mem_singleton] at hi; subst hi; rw [upd_same]; simp
        split at h
        · simp only [Option.some.injEq, Prod.mk.injEq] at h
          obtain ⟨rfl, rfl, rfl, rfl⟩ := h
          simp only [Bool.and_eq_true, decide_eq_true_eq] at hb
          obtain ⟨⟨⟨h0, h1⟩, h2⟩, h3⟩ := hb
          obtain ⟨n1, n2, n3, n4⟩ := news h0 h1 h3
          obtain ⟨v', w', r1, r2, r3, _⟩ := run_append_own (P := P) w w.heap.size t ty el inf z inf.size inf.bytes hu hinf hz rfl rfl hzs hs1 (.slice none 0 0) 0 [] (World.ownsRow_nil w _ el inf.size) (addr β j e 0) m ((β j).cap - e) _ n1 n2 n3 (by rw [Nat.zero_add]; exact maxb m h2) (by rw [Nat.zero_add]; exact h2) (Nat.le_refl _)
          rw [n4]
          rw [Nat.zero_add, List.nil_append] at r2
          obtain ⟨β', e1, e2, e3⟩ := fresh A.bl hbc hid { n := m, sz := C.sz, get := fun k => C.get (e + k), kd := .own } w' v' rfl rfl h0 rfl (fun i hi => qC.len (e + i) (by simp at hi; omega))
           (fun i o s hi hs => hbc.live j C (e + i) o s hC hCg (by simp at hi; omega) hs) (by
             have : rowV β (fun k => C.get (e + k)) 0 m = rowV β C.get e m := by unfold rowV; simp
             rw [this]; exact r2) r3
          refine ⟨β', w', ?_, e2, nxup _ _ hnx, liv _ _ _, ⟨fun i B hB => ⟨B, ?_, rfl, ⟨rfl, rfl⟩, .inl rfl, fun _ => rfl⟩, e3, fun i hi h0 => ?_⟩⟩
          · rw [show (SV.val (.slice none 0 0)).conc β = .slice none 0 0 by rfl, r1, e1]
          · rw [upd_ne (fun h => by rw [h, hid] at hB; cases hB)]; exact hB
          · rw [upd_ne (by omega)]; exact h0
        · rename_i i n _
          split at h
          · rename_i B hB
            split at h
            · rename_i hk
              cases hc : (Nat.beq B.sz C.sz && !Nat.beq i j) with
              | false => rw [hc] at h; cases h
              | true =>
                rw [hc] at h
                simp only [cond_true, Option.some.injEq, Prod.mk.injEq] at h
                obtain ⟨rfl, rfl, rfl, rfl⟩ := h
                simp only [Bool.and_eq_true, Bool.not_eq_true', nbeq, decide_eq_true_eq, decide_eq_false_iff_not] at hc
                obtain ⟨hBC, hij⟩ := hc
                simp only [Bool.and_eq_true, decide_eq_true_eq] at hb
                obtain ⟨⟨⟨⟨h0, h1⟩, hn⟩, h2⟩, h3⟩ := hb
                obtain ⟨n1, n2, n3, n4⟩ := news h0 h1 h3
                have hng : B.kd ≠ .gone := by rw [hk]; simp
                have qB := hbc.blk i B hB hng
                have hne : A.nx ≠ i := fun h => by rw [← h, hid] at hB; cases hB
                have hjl : ∀ k, k < n + m → (joinG B.get C.get n e k).length = C.sz := joinG_len (fun k hk => by rw [qB.len k (by omega), hBC]) (fun k hk => qC.len (e + k) (by omega))
                have hjlive : ∀ (k o : Nat) (s : SV), k < n + m → (joinG B.get C.get n e k)[o]? = some s → Live A.bl s := by
                 intro k o s hk hs
                 by_cases hkn : k < n
                 · rw [joinG_lt hkn] at hs; exact hbc.live i B k o s hB hng (by omega) hs
                 · rw [joinG_ge hkn] at hs; exact hbc.live j C _ o s hC hCg (by omega) hs
                have htr : ∀ β', (∀ l, A.bl l ≠ none → β' l = β l) → Tr A.bl A.nx [i] β (upd (upd A.bl i { B with kd := .gone }) A.nx { n := n + m, sz := C.sz, get := joinG B.get C.get n e, kd := .own }) β' := by
                 intro β' hβ
                 refine ⟨fun l D hD => ?_, hβ, fun l hl h0 => ?_⟩
                 · have hl : l ≠ A.nx := fun h => by rw [h, hid] at hD; cases hD
                   rw [upd_ne hl]
                   by_cases hli : l = i
                   · subst hli
                     rw [hB] at hD; obtain rfl : B = D := by simpa using hD
                     exact ⟨_, upd_same _ _ _, rfl, ⟨rfl, rfl⟩, .inr rfl, fun h => absurd (by simp) h⟩
                   · rw [upd_ne hli]; exact ⟨D, hD, rfl, ⟨rfl, rfl⟩, .inl rfl, fun _ => rfl⟩
                 · rw [upd_ne (by omega), upd_ne (fun h => by rw [h, hB] at h0; cases h0)]; exact h0
                have hnx' : NX (upd A.bl i { B with kd := .gone }) A.nx := fun l hl => by
                 rw [upd_ne (fun h => by rw [h] at hl; have := hnx i hl; rw [hB] at this; cases this)]; exact hnx l hl
                have hkl : BC W0 (upd A.bl i { B with kd := .gone }) β w := hbc.kill i rfl
                have hid' : upd A.bl i { B with kd := .gone } A.nx = none := by rw [upd_ne hne]; exact hid
                have grown : ∀ v' w', w'.ownsRow w.heap.size el inf.size v' (n + m) (rowV β B.get 0 n ++ rowV β C.get e m) → w.grownBy w' none → (Builtin.append_ #[t, t] ty #[(SV.slc i 0 n).conc β, (SV.slc j e m).conc β]).run P w = .ok v' w' →
                 ∃ β' w', (Builtin.append_ #[t, t] ty #[(SV.slc i 0 n).conc β, (SV.slc j e m).conc β]).run P w = .ok ((SV.slc A.nx 0 (n + m)).conc β') w' ∧ BC W0 (upd (upd A.bl i { B with kd := .gone }) A.nx { n := n + m, sz := C.sz, get := joinG B.get C.get n e, kd := .own }) β' w' ∧ NX (upd (upd A.bl i { B with kd := .gone }) A.nx { n := n + m, sz := C.sz, get := joinG B.get C.get n e, kd := .own }) (A.nx + 1) ∧ Live (upd (upd A.bl i { B with kd := .gone }) A.nx { n := n + m, sz := C.sz, get := joinG B.get C.get n e, kd := .own }) (.slc A.nx 0 (n + m)) ∧ Tr A.bl A.nx [i] β (upd (upd A.bl i { B with kd := .gone }) A.nx { n := n + m, sz := C.sz, get := joinG B.get C.get n e, kd := .own }) β' := by
                 intro v' w' r2 r3 r1
                 obtain ⟨β', e1, e2, e3⟩ := fresh _ hkl hid' { n := n + m, sz := C.sz, get := joinG B.get C.get n e, kd := .own } w' v' rfl rfl (by simp; omega) rfl hjl (fun k o s hk hs => (hjlive k o s hk hs).upd) (by
                  have : rowV β (joinG B.get C.get n e) 0 (n + m) = rowV β B.get 0 n ++ rowV β C.get e m := by
                   unfold rowV
                   rw [List.range_add, List.flatMap_append]
                   congr 1
                   · apply fm_congr; intro k hk
                     have hkn : k < n := by simpa using hk
                     rw [Nat.zero_add, joinG_lt hkn]
                   · rw [List.flatMap_map]
                     apply fm_congr; intro k hk
                     rw [Nat.zero_add, joinG_ge (by omega)]
                     congr 2; omega
                  rw [this]; exact r2) r3
                 refine ⟨β', w', by rw [r1, e1], e2, nxup _ _ hnx', liv _ _ _, htr β' fun l hl => e3 l (upd_dom hl)⟩
                cases hnil : (β i).nil with
                | true =>
                  have hcap := qB.nil hnil
                  have := qB.le
                  obtain rfl : n = 0 := by omega
                  have ex : (SV.slc i 0 0).conc β = .slice none 0 0 := by simp [SV.conc, hnil, hcap]
                  obtain ⟨v', w', r1, r2, r3, _⟩ := run_append_own (P := P) w w.heap.size t ty el inf z inf.size inf.bytes hu hinf hz rfl rfl hzs hs1 (.slice none 0 0) 0 [] (World.ownsRow_nil w _ el inf.size) (addr β j e 0) m ((β j).cap - e) _ n1 n2 n3 (maxb _ h2) h2 (Nat.le_refl _)
                  refine grown v' w' ?_ r3 ?_
                  · have : rowV β B.get 0 0 = [] := rfl
                    rw [this]; exact r2
                  · rw [ex, n4]; exact r1
                | false =>
                  have ex := conc_slc (β := β) (id := i) (e := 0) (len := n) hnil (.inr rfl)
                  by_cases hroom : n + m ≤ (β i).cap
                  · have hcells : ∀ l, l < m * inf.size → n * inf.size + l < (β i).cap * B.sz := fun l hl => by
                     have h4 : (n + m) * B.sz ≤ (β i).cap * B.sz := Nat.mul_le_mul_right _ hroom
                     rw [Nat.add_mul] at h4
                     rw [← hsz, ← hBC] at hl ⊢
                     omega
                    have hszi : (β i).sz = inf.size := by rw [qB.sz, hBC, hsz]
                    have r1 := run_append_room_cells (P := P) w t ty el inf hu hinf (β i).blk (β i).off n (β i).cap (addr β j e 0) m ((β j).cap - e) _ n1 n2 n3 hroom
                     (fun l hl => by
                       have := qB.ex (n * inf.size + l) (hcells l (by omega))
                       rwa [← Nat.add_assoc] at this)
                     (fun l hl => by
                       have := qB.fr hk (n * inf.size + l) (hcells l (by omega))
                       rwa [← Nat.add_assoc] at this)
                    have wr := hbc.writeG hB hk (k := n * inf.size) (vs := rowV β C.get e m) (B' := { n := n + m, sz := B.sz, get := joinG B.get C.get n e, kd := .own })
                     (by rw [n1]; have h4 : (n + m) * B.sz ≤ (β i).cap * B.sz := Nat.mul_le_mul_right _ hroom
                         rw [Nat.add_mul] at h4
                         rw [← hsz, ← hBC]; omega) rfl rfl hroom (fun _ => hnil) (fun k hk => by rw [hjl k hk, hBC]) hjlive
                     (by
                       intro k o s hk hs
                       have ho : o < C.sz := by
                        rcases Nat.lt_or_ge o C.sz with h' | h'
                        · exact h'
                        · rw [List.getElem?_eq_none (by rw [hjl k hk]; exact h')] at hs; cases hs
                       rw [n1, ← hsz, hBC]
                       replace hs : (joinG B.get C.get n e k)[o]? = some s := hs
                       by_cases hkn : k < n
                       · rw [joinG_lt hkn] at hs
                         exact .inr ⟨.inl (cell_lt hkn ho), by omega, hs⟩
                       · rw [joinG_ge hkn] at hs
                         have hk' : k - n < m := by simp at hk; omega
                         have h5 := cell_lt (n := m) (sz := C.sz) hk' ho
                         have h6 : k * C.sz = n * C.sz + (k - n) * C.sz := by rw [← Nat.add_mul]; congr 1; omega
                         refine .inl ⟨by omega, by omega, ?_⟩
                         rw [show k * C.sz + o - n * C.sz = (k - n) * C.sz + o by omega]
                         rw [rowV_get (fun i hi => qC.len (e + i) (by omega)) hk' ho, hs]
                         rfl)
                    have rb := wr.reborn (i := i) (id := A.nx) (upd_same _ _ _) rfl (by rw [upd_ne hne]; exact hid) (X := { B with kd := .gone }) rfl
                    rw [upd_upd] at rb
                    refine ⟨updL β A.nx (β i), _, ?_, by rw [← hBC]; exact rb, nxup _ _ hnx', liv _ _ _, htr _ fun l hl => updL_ne fun h => hl (h ▸ hid)⟩
                    rw [ex, n4]
                    rw [show addr β i 0 0 = ⟨(β i).blk, (β i).off, none⟩ by simp [addr]]
                    rw [Nat.sub_zero]
                    rw [r1]
                    congr 1
                    rw [conc_slc (by rw [updL_same]; exact hnil) (.inr rfl)]
                    simp [addr, updL_same]
                  · have hol : ∀ k, k < n → (B.get (0 + k)).length = inf.size := fun k hk => by rw [Nat.zero_add, qB.len k (by omega), hBC, hsz]
                    obtain ⟨v', w', r1, r2, r3⟩ := run_append_arg_grows (P := P) w t ty el inf z inf.size inf.bytes hu hinf hz rfl rfl hzs hs1 (addr β i 0 0) n (β i).cap (rowV β B.get 0 n) (rowV_len hol) (fun l u hu => rowV_cell qB (by omega) l u hu) (addr β j e 0) m ((β j).cap - e) _ n1 n2 (by omega) (maxb _ h2) h2
                    refine grown v' w' r2 r3 ?_
                    rw [ex, n4, Nat.sub_zero]; exact r1
            · cases h
          · cases h
        · cases h
     split at h
     · cases h
     · rename_i hk
       exact key (fun e => hk e) h
   · cases h
 · cases h
theorem appF_spec {A : AS} {o : Oper} {t : TypeId} {x y : SV} (h : appF A o = some (t, x, y)) : o.guard = none ∧ ∃ c : Call, o.op = .call c ∧ c.callee = .builtin .append ∧ c.argTypes = #[t, t] ∧ evs A.tm [] c.args.toList = some [x, y] := by
 unfold appF at h
 split at h
 · rename_i c hg ho
   split at h
   · rename_i hcal
     split at h
     · rename_i t1 t2 x1 y1 ht he
       cases hb : Nat.beq t1 t2 with
       | false => rw [hb] at h; cases h
       | true =>
         rw [hb] at h
         simp only [cond_true, Option.some.injEq, Prod.mk.injEq] at h
         obtain ⟨rfl, rfl, rfl⟩ := h
         have := Nat.eq_of_beq_eq_true hb
         subst this
         exact ⟨hg, c, ho, hcal, by apply Array.ext'; simpa using ht, he⟩
     · cases h
   · cases h
 · cases h
theorem opsU_sound {Γ : FuncId → Option Ctr} (hΓ : GamOK P W0 Γ) {inl : Inl} (hinl : InlOK P W0 inl) {ops : Array Oper} {Q : Exit → Act → World → Prop} {K : AS → Prop} {A0 : AS} {β0 : Nat → Loc}
 (hQ : ∀ A' a' w' β', K A' → Is W0 A' β' a' w' → Trs A0 β0 A' β' → Q .normal a' w') :
 ∀ (rest : List Oper) (A : AS) (a : Act) (w : World) (β : Nat → Loc), opsU P Γ inl ops rest A K → Is W0 A β a w → Trs A0 β0 A β → wpList P ops Q rest a w
 | [], A, a, w, β, h, hs, ht => hQ A a w β h hs ht
 | o :: rest, A, a, w, β, h, hs, ht => by
   simp only [opsU] at h
   have go : ∀ A' a' w' β', opsU P Γ inl ops rest A' K → Is W0 A' β' a' w' → Trs A0 β0 A' β' → wpList P ops Q rest a' w' := fun A' a' w' β' => opsU_sound hΓ hinl hQ rest A' a' w' β'
   unfold wpList
   split at h
   · rename_i t x y hc
     split at h
     · rename_i b bl r k happ
       obtain ⟨hb, h⟩ := needB_iff.1 h
       obtain ⟨hg, c, hop, hcal, hty, hev⟩ := appF_spec hc
       have e1 := (evs_sound hs.fr (G := []) (fun p hp => by cases hp) hev).1
       obtain ⟨β', w', r1, r2, r3, r4, r5⟩ := appE_sound hs.bc hs.nx happ hb o.type
       rw [if_pos (by simp [Region.wanted, hg])]
       refine .inl ?_
       split at h
       · rename_i A1 hp
         have fr1 := (hs.fr.carry r5).frame (A.nx + 1) (k ++ A.wl)
         obtain ⟨q1, q2, q3, q4, q5⟩ := FR.putD fr1 r4 hp
         have e2 : c.args.map a.eval = #[x.conc β, y.conc β] := by apply Array.ext'; simpa [SV.concs] using e1
         have hrun : (execOp a.eval o).run P w = .ok (.value (r.conc β')) w' := by
          obtain ⟨o1, o2, o3, o4, o5, o6⟩ := o
          simp only [] at hop
          subst hop
          simp only [execOp, resolve, hcal, Sem.run_bind, Sem.run_pure, Result.andThen_ok, invoke, builtin, e2, hty, r1]
         unfold Oper.wp
         rw [hrun]
         refine go A1 _ w' β' h ⟨q1, by rw [q2]; exact r2, by rw [q2, q3]; exact r3⟩ (ht.trans ⟨?_, ?_, ?_, q4⟩)
         · rw [q2, q5]; exact r5.mono fun i hi => by simp [hi]
         · rw [q5]; exact fun i hi => by simp [hi]
         · rw [q3]; show A.nx ≤ A.nx + 1; omega
       · exact h.elim
     · exact h.elim
   · split at h
     · rename_i f args hc
       unfold calledF at hc
       split at hc
       · rename_i c hg ho
         split at hc
         · rename_i fo hcal
           split at hc
           · rename_i f' args' ht'
             split at hc
             · simp only [Option.some.injEq, Prod.mk.injEq] at hc
               obtain ⟨rfl, rfl⟩ := hc
               rw [if_pos (by simp [Region.wanted, hg])]
               refine .inl ?_
               obtain ⟨o1, o2, o3, o4, o5, o6⟩ := o
               simp only [] at hg ho
               subst hg; subst ho
               have hl : ∀ s ∈ args', Live A.bl s := by
                unfold target at ht'
                split at ht'
                · split at ht'
                  · rename_i g first caps as hfn has
                    simp only [Option.some.injEq, Prod.mk.injEq] at ht'
                    obtain ⟨rfl, rfl⟩ := ht'
                    have l1 := (ev_sound hs.fr (G := []) (fun p hp => by cases hp) hfn).2
                    have l2 := (evs_sound hs.fr (G := []) (fun p hp => by cases hp) has).2
                    intro s hs'
                    simp only [List.mem_append] at hs'
                    rcases hs' with (hs' | hs') | hs'
                    · exact fun i hi => l1 i (by simp only [SV.ids, List.mem_append]; exact .inl (SV.mem_idss.2 ⟨s, hs', hi⟩))
                    · exact l2 s hs'
                    · exact fun i hi => l1 i (by simp only [SV.ids, List.mem_append]; exact .inr (SV.mem_idss.2 ⟨s, hs', hi⟩))
                  · cases ht'
                · cases ht'
               obtain ⟨hcb, hcalls⟩ := hinl f' args' A.bl A.nx A.wl _ β w h hs.bc hs.nx hl
               obtain ⟨r1, _⟩ := target_sound hs.fr (G := []) (fun p hp => by cases hp) ht' hcb o3 w
               have r2 : (execOp a.eval ⟨o1, .call c, o3, o4, o5, none⟩).run P w = .ok (.enter f' (SV.concs β args').toArray) w := r1
               unfold Oper.wp
               rw [r2]
               refine Calls.mono hcalls ?_
               rintro e w' ⟨β', r, bl', nx', wl', rfl, hk, k1, k2, k3, k4, k5, k6⟩
               split at hk
               · rename_i A1 hp
                 have fr1 := (hs.fr.carry k4).frame nx' wl'
                 obtain ⟨q1, q2, q3, q4, q5⟩ := FR.putD fr1 k3 hp
                 refine go A1 _ w' β' hk ⟨q1, by rw [q2]; exact k1, by rw [q2, q3]; exact k2⟩ (ht.trans ⟨?_, ?_, ?_, q4⟩)
                 · rw [q2, q5]; exact k4
                 · rw [q5]; exact k5
                 · rw [q3]; exact k6
               · exact hk.elim
             · cases hc
           · cases hc
         · cases hc
       · cases hc
     · split at h
       · rename_i b A1 f hst
         obtain ⟨hb, h⟩ := needB_iff.1 h
         subst hb
         have k := step_sound hΓ hs.fr hs.bc (Nat.le_refl _) hst (Q := Q) (K := wpList P ops Q rest) (fun a' w' β' r1 r2 r3 r4 r5 r6 => by
          obtain ⟨E, hE⟩ := step_bl hst
          refine go _ a' w' β' h ⟨r1.frame _ _, r2, ?_⟩ (ht.trans ⟨?_, ?_, ?_, r6⟩)
          · show NX A1.bl (A1.nx + 1)
            rw [hE, r4]
            exact hs.nx.apply E (by omega) (Nat.le_refl _)
          · exact r3.mono fun i hi => by simp [hi]
          · intro i hi; simp [r5, hi]
          · show A.nx ≤ A1.nx + 1
            omega)
         by_cases hw : Region.wanted o (yielded ops a.tmps) = true
         · rw [if_pos hw] at k ⊢; exact .inl k
         · rw [if_neg hw] at k ⊢; exact k
       · exact h.elim
theorem branch_iff {b : Bool} {p q : Prop} : branch b p q ↔ (b = true → p) ∧ (b = false → q) := by cases b <;> simp [branch]
theorem Post.mono {A : AS} {β : Nat → Loc} {K K' : Exit → AS → Prop} (h : ∀ e A, K e A → K' e A) (e : Exit) (a : Act) (w : World) (hp : Post W0 A β K e a w) : Post W0 A β K' e a w := by
 obtain ⟨A', β', h1, h2, h3⟩ := hp
 exact ⟨A', β', h _ _ h1, h2, h3⟩
theorem Post.from {A B : AS} {β γ : Nat → Loc} {K : Exit → AS → Prop} (t : Trs A β B γ) (e : Exit) (a : Act) (w : World) (hp : Post W0 B γ K e a w) : Post W0 A β K e a w := by
 obtain ⟨A', β', h1, h2, h3⟩ := hp
 exact ⟨A', β', h1, h2, t.trans h3⟩
end
section
variable {P : Program} {W0 : World}
theorem eff_id {Γ : FuncId → Option Ctr} {tm : Nat → TV} {bl : Nat → Option Blk} {G : List (Nat × Bool)} {id id' : Nat} {op : Op} {E : Eff} (he : eff P Γ tm bl G id op = some E) (hn : E.nw = none) :
 eff P Γ tm bl G id' op = some E := by
 cases op with
 | alloc t =>
   exfalso
   simp only [eff] at he
   split at he
   · simp only [Option.some.injEq] at he; subst he; cases hn
   · cases he
 | box t x =>
   exfalso
   simp only [eff] at he
   split at he
   · cases he
   · simp only [Option.some.injEq] at he; subst he; cases hn
   · cases he
 | buildSlice t n parts =>
   exfalso
   simp only [eff] at he
   split at he
   · split at he
     · have he := bif_some he
       split at he
       · simp only [Option.some.injEq] at he; subst he; cases hn
       · cases he
     · cases he
   · cases he
 | slice t x lo hi mx => cases mx <;> exact he
 | _ => exact he
theorem eff_rd {Γ : FuncId → Option Ctr} {tm : Nat → TV} {bl : Nat → Option Blk} {G : List (Nat × Bool)} {id : Nat} {op : Op} {E : Eff} (he : eff P Γ tm bl G id op = some E) {i : Nat} (hi : i ∈ E.rd) : bl i ≠ none := by
 have p1 : ∀ {o : Option SV}, pure1 o = some E → False := fun h => by obtain ⟨s, _, rfl⟩ := pure1_some h; cases hi
 have p2 : ∀ {o : Option (Bool × SV)}, pure2 o = some E → False := fun h => by obtain ⟨b, s, _, rfl⟩ := pure2_some h; cases hi
 cases op with
 | store t x y =>
   exfalso
   simp only [eff] at he
   split at he
   · unfold storeS at he
     split at he
     · split at he
       · split at he
         · split at he
           · have he := bif_some he
             simp only [Option.some.injEq] at he; subst he; cases hi
           · cases he
         · cases he
       · cases he
     · cases he
   · cases he
 | box t x =>
   exfalso
   simp only [eff] at he
   split at he
   · cases he
   · simp only [Option.some.injEq] at he; subst he; cases hi
   · cases he
 | buildSlice t n parts =>
   exfalso
   simp only [eff] at he
   split at he
   · split at he
     · have he := bif_some he
       split at he
       · simp only [Option.some.injEq] at he; subst he; cases hi
       · cases he
     · cases he
   · cases he
 | load t x =>
   simp only [eff] at he
   split at he
   · unfold loadS at he
     split at he
     · split at he
       · rename_i B hB
         have key : i = _ := (by
          split at he
          · cases he
          · split at he
            · split at he
              · simp only [Option.some.injEq] at he; subst he; simpa using hi
              · cases he
            · have he := bif_some he
              simp only [Option.some.injEq] at he; subst he; simpa using hi
            · cases he)
         rw [key, hB]; simp
       · cases he
     · cases he
   · cases he
 | convert s d x =>
   simp only [eff] at he
   split at he
   · split at he
     · simp only [Option.some.injEq] at he; subst he; cases hi
     · cases he
   · split at he
     · simp only [Option.some.injEq] at he; subst he; cases hi
     · cases he
   · split at he
     · rename_i hB
       split at he
       · split at he
         · have he := bif_some he
           simp only [Option.some.injEq] at he; subst he
           simp only [List.mem_singleton] at hi
           subst hi; rw [hB]; simp
         · cases he
       · cases he
     · cases he
   · cases he
 | slice t x lo hi' mx =>
   cases mx with
   | some m => simp [eff] at he
   | none =>
     simp only [eff] at he
     split at he
     · split at he
       · have he := bif_some he
         simp only [Option.some.injEq] at he; subst he; cases hi
       · cases he
     · split at he
       · rename_i hB _
         split at he
         · cases he
         · have he := bif_some he
           simp only [Option.some.injEq] at he; subst he
           simp only [List.mem_singleton] at hi
           subst hi; rw [hB]; simp
       · cases he
     · cases he
 | indexAddr t x y =>
   simp only [eff] at he
   split at he
   · split at he
     · split at he
       · simp only [Option.some.injEq] at he; subst he; cases hi
       · cases he
     · cases he
   · split at he
     · rename_i hB
       split at he
       · cases he
       · have he := bif_some he
         simp only [Option.some.injEq] at he; subst he
         simp only [List.mem_singleton] at hi
         subst hi; rw [hB]; simp
       · cases he
     · cases he
   · cases he
 | index t x y =>
   exfalso
   simp only [eff] at he
   split at he
   · split at he
     · split at he
       · split at he
         · have he := bif_some he
           split at he
           · simp only [Option.some.injEq] at he; subst he; cases hi
           · cases he
         · cases he
       · split at he
         · simp only [Option.some.injEq] at he; subst he; cases hi
         · cases he
       · cases he
     · cases he
   · split at he
     · simp only [Option.some.injEq] at he; subst he; cases hi
     · cases he
   · cases he
 | call c =>
   exfalso
   simp only [eff] at he
   split at he
   · split at he
     · unfold callB at he
       split at he
       · split at he
         · exact p1 he
         · cases he
       · split at he
         · exact p1 he
         · cases he
       · split at he
         · exact p1 he
         · cases he
       · cases he
     · cases he
   · split at he
     · split at he
       · exact p2 he
       · cases he
     · cases he
 | _ =>
   exfalso
   simp only [eff] at he
   first
    | exact p1 he
    | (repeat' (first | (split at he) | (cases he; done)))
      all_goals first
       | exact p1 he
       | exact p2 he
       | (simp only [Option.some.injEq] at he; subst he; cases hi; done)
def RO (D : Dl) : Prop := D.E.wr = none ∧ D.E.nw = none
theorem ro_foot {D : Dl} {id : Nat} : (footE id D.E).2 = [] ↔ RO D := by
 unfold footE RO
 simp only [List.append_eq_nil_iff]
 constructor
 · rintro ⟨h1, h2⟩
   constructor
   · unfold wrI at h1; split at h1
     · cases h1
     · assumption
   · unfold nwI at h2; split at h2
     · cases h2
     · assumption
 · rintro ⟨h1, h2⟩
   simp [wrI, nwI, h1, h2]
theorem app_ro {D : Dl} (h : RO D) (id : Nat) (A : AS) : app D id A = { A with tm := setT D.d D.tv A.tm, og := setF (D.key.bind fun _ => D.d) A.og, ok := setF (D.d.bind fun _ => D.key) A.ok } := by
 simp [app, applyE, h.1, h.2]
theorem Stp.reid {Γ : FuncId → Option Ctr} {ops : Array Oper} {id id' : Nat} {o : Oper} {A : AS} {D : Dl} (h : Stp P Γ ops id o A D) (hr : RO D) (hf : A.bl id' = none) : Stp P Γ ops id' o A D := by
 refine ⟨h.d, hf, h.put, ?_⟩
 have src := h.src
 unfold Src at src ⊢
 cases hg : o.guard with
 | none =>
   rw [hg] at src
   exact ⟨src.1, src.2.1, src.2.2.1, eff_id src.2.2.2 hr.2⟩
 | some p =>
   obtain ⟨j, b⟩ := p
   rw [hg] at src
   obtain ⟨t, g, h1, h2, h3, h4, h5⟩ := src
   exact ⟨t, g, h1, h2, h3, eff_id h4 hr.2, h5⟩
theorem Stp.det {Γ : FuncId → Option Ctr} {ops : Array Oper} {id : Nat} {o : Oper} {A : AS} {D D' : Dl} (h : Stp P Γ ops id o A D) (k : Stp P Γ ops id o A D') : D = D' := by
 have s1 := h.src
 have s2 := k.src
 have hd := h.d.trans k.d.symm
 obtain ⟨d, tv, key, E⟩ := D
 obtain ⟨d', tv', key', E'⟩ := D'
 simp only [] at hd s1 s2
 subst hd
 unfold Src at s1 s2
 cases hg : o.guard with
 | none =>
   rw [hg] at s1 s2
   obtain ⟨a1, a2, a3, a4⟩ := s1
   obtain ⟨b1, b2, b3, b4⟩ := s2
   simp only [] at *
   rw [a4] at b4
   obtain rfl : E = E' := by simpa using b4
   rw [a1, b1, a2, b2]
 | some p =>
   obtain ⟨j, b⟩ := p
   rw [hg] at s1 s2
   obtain ⟨t, g, a1, a2, a3, a4, a5, a6, a7, a8⟩ := s1
   obtain ⟨t', g', b1, b2, b3, b4, b5, b6, b7, b8⟩ := s2
   simp only [] at *
   rw [a1] at b1
   obtain rfl : t = t' := by simpa using b1
   rw [a4] at b4
   obtain rfl : E = E' := by simpa using b4
   rw [a2, b2, a8, b8]
theorem key_looks {Γ : FuncId → Option Ctr} {ops : Array Oper} {id : Nat} {o : Oper} {A : AS} {D : Dl} (h : Src P Γ ops id o A D) {t : Nat} (hk : D.key = some t) : t ∈ o.looksAt ops := by
 unfold Src at h
 cases hg : o.guard with
 | none => rw [hg] at h; rw [h.1] at hk; cases hk
 | some p =>
   obtain ⟨j, b⟩ := p
   rw [hg] at h
   obtain ⟨t', g, k1, k2, _⟩ := h
   rw [k2] at hk
   obtain rfl : t' = t := by simpa using hk
   refine List.mem_append_right _ ?_
   rw [hg]
   simp at k1 ⊢
   exact k1
def bigS (A : AS) (d : Option Nat) (r : SV) (bl : Nat → Option Blk) (nx : Nat) (wl : List Nat) : AS := { A with tm := setT d (.v r) A.tm, bl := bl, nx := nx, wl := wl }
theorem putD_iff {B A' : AS} {d : Option Nat} {s : SV} : putD B d (.v s) = some A' ↔ A' = { B with tm := setT d (.v s) B.tm } ∧ ∀ x, d = some x → x < B.nt ∧ B.ok x = false := by
 cases d with
 | none => simp [putD, setT_none]; exact ⟨fun h => h.symm, fun h => h.symm⟩
 | some d =>
   simp only [putD]
   cases hc : (Nat.blt d B.nt && !B.ok d) with
   | false =>
     simp only [cond_false]
     constructor
     · intro h; cases h
     · rintro ⟨_, h⟩
       have h2 := h d rfl
       rw [blt_iff] at hc
       simp [h2.1, h2.2] at hc
   | true =>
     rw [blt_iff] at hc
     simp only [Bool.and_eq_true, decide_eq_true_eq, Bool.not_eq_true'] at hc
     simp only [cond_true, Option.some.injEq, forall_eq']
     constructor
     · intro h; exact ⟨h.symm, hc⟩
     · intro h; exact h.1.symm
theorem src_big {Γ : FuncId → Option Ctr} {ops : Array Oper} {id : Nat} {o : Oper} {A : AS} {D : Dl} {d : Option Nat} {r : SV} {bl : Nat → Option Blk} {nx : Nat} {wl : List Nat} (hos : OS A) (hr : RO D)
 (hd : ∀ x, d = some x → A.ok x = false ∧ x ∉ o.looksAt ops) (hrd : ∀ j ∈ D.E.rd, bl j = A.bl j) : Src P Γ ops id o (bigS A d r bl nx wl) D ↔ Src P Γ ops id o A D := by
 have hev : ∀ x ∈ o.op.operands, ∀ G, ev (setT d (.v r) A.tm) G x = ev A.tm G x := fun x hxo G => ev_set (fun t e he => by
  subst e
  exact (hd t he).2 (List.mem_append_left _ (List.mem_filterMap.2 ⟨.tmp t, by simpa using hxo, rfl⟩))) G
 have hf : ∀ i, (i ∈ D.E.rd ∨ i ∈ wrI D.E) → bl i = A.bl i := fun i hi => by
  rcases hi with hi | hi
  · exact hrd i hi
  · simp [wrI, hr.1] at hi
 have heff : ∀ G, eff P Γ (bigS A d r bl nx wl).tm (bigS A d r bl nx wl).bl G id o.op = some D.E ↔ eff P Γ A.tm A.bl G id o.op = some D.E := by
  intro G
  show eff P Γ (setT d (.v r) A.tm) bl G id o.op = some D.E ↔ _
  rw [eff_tm hev]
  exact ⟨fun h => eff_bl h fun i hi => (hf i hi).symm, fun h => eff_bl h fun i hi => hf i hi⟩
 unfold Src
 cases hg : o.guard with
 | none => simp only [heff]
 | some p =>
   obtain ⟨j, b⟩ := p
   have hkey : ∀ t, (ops.toList[j]?).bind (·.dst) = some t → d ≠ some t := fun t ht he => by
    refine (hd t he).2 (List.mem_append_right _ ?_)
    rw [hg]
    simp at ht ⊢
    exact ht
   constructor
   · rintro ⟨t, g, h1, h2, h3, h4, h5⟩
     refine ⟨t, g, h1, h2, ?_, ?_, h5⟩
     · rw [← truth_set hos (fun x hx => (hd x hx).1) 9 t b (hkey t h1)]; exact h3
     · have := (heff _).1 h4
       rw [show known (bigS A d r bl nx wl).tm 9 t b = known A.tm 9 t b from known_set hos (fun x hx => (hd x hx).1) 9 t b (hkey t h1)] at this
       exact this
   · rintro ⟨t, g, h1, h2, h3, h4, h5⟩
     refine ⟨t, g, h1, h2, ?_, ?_, h5⟩
     · show truth (setT d (.v r) A.tm) 9 t b = _
       rw [truth_set hos (fun x hx => (hd x hx).1) 9 t b (hkey t h1)]; exact h3
     · rw [show known (bigS A d r bl nx wl).tm 9 t b = known A.tm 9 t b from known_set hos (fun x hx => (hd x hx).1) 9 t b (hkey t h1)]
       exact (heff _).2 h4
theorem setT_comm {d e : Option Nat} {v u : TV} {tm : Nat → TV} (h : ∀ x, d = some x → e ≠ some x) : setT d v (setT e u tm) = setT e u (setT d v tm) := by
 funext t
 cases d with
 | none => rfl
 | some x =>
   cases e with
   | none => rfl
   | some y =>
     have hxy : x ≠ y := fun he => h x rfl (by rw [he])
     simp only [setT_some, nbeq]
     by_cases h1 : t = x
     · subst h1; simp [hxy]
     · simp [h1]
theorem app_big {A : AS} {D : Dl} (hr : RO D) (id id' : Nat) {d : Option Nat} {r : SV} {bl : Nat → Option Blk} {nx : Nat} {wl : List Nat} (h : ∀ x, D.d = some x → d ≠ some x) :
 app D id (bigS A d r bl nx wl) = bigS (app D id' A) d r bl nx wl := by
 rw [app_ro hr, app_ro hr]
 unfold bigS
 simp only [setT_comm h]
def NiceT (bl : Nat → Option Blk) (nx : Nat) (T : (SV → (Nat → Option Blk) → Nat → List Nat → Prop) → Prop) : Prop :=
 ∀ K, T K → ∃ S : SV → (Nat → Option Blk) → Nat → List Nat → Prop, (∃ r b n w, S r b n w) ∧
  (∀ r b n w, S r b n w → K r b n w ∧ NX b n ∧ nx ≤ n ∧ (∀ j B, bl j = some B → j ∉ w → b j = some B) ∧ ∀ j, j < nx → bl j = none → b j = none) ∧ ∀ K', (∀ r b n w, S r b n w → K' r b n w) → T K'
def InlNice (inl : Inl) : Prop := ∀ (f : FuncId) (args : List SV) (bl : Nat → Option Blk) (nx : Nat) (wl : List Nat), NX bl nx → ∀ K, inl f args bl nx wl K →
 ∃ S : SV → (Nat → Option Blk) → Nat → List Nat → Prop, (∃ r b n w, S r b n w) ∧
  (∀ r b n w, S r b n w → K r b n w ∧ NX b n ∧ nx ≤ n ∧ (∀ j B, bl j = some B → j ∉ w → b j = some B) ∧ (∀ j, j < nx → bl j = none → b j = none) ∧ ∀ j ∈ wl, j ∈ w) ∧ ∀ K', (∀ r b n w, S r b n w → K' r b n w) → inl f args bl nx wl K'
theorem InlNice.nil {inl : Inl} (h : InlNice inl) (f : FuncId) (args : List SV) {bl : Nat → Option Blk} {nx : Nat} (hnx : NX bl nx) : NiceT bl nx (inl f args bl nx []) := by
 intro K hK
 obtain ⟨S, s1, s2, s3⟩ := h f args bl nx [] hnx K hK
 exact ⟨S, s1, fun r b n w hs => by obtain ⟨a1, a2, a3, a4, a5, _⟩ := s2 r b n w hs; exact ⟨a1, a2, a3, a4, a5⟩, s3⟩
theorem appE_nx {A : AS} {t : TypeId} {x y r : SV} {b : Bool} {bl : Nat → Option Blk} {k : List Nat} (hnx : NX A.bl A.nx) (h : appE P A t x y = some (b, bl, r, k)) :
 NX bl (A.nx + 1) ∧ (∀ j B, A.bl j = some B → j ∉ A.nx :: k → bl j = some B) ∧ ∀ j, j < A.nx → A.bl j = none → bl j = none := by
 have hid : A.bl A.nx = none := hnx _ (Nat.le_refl _)
 have dom : ∀ {j B}, A.bl j = some B → j < A.nx := fun {j B} hB => by
  rcases Nat.lt_or_ge j A.nx with h | h
  · exact h
  · rw [hnx j h] at hB; cases hB
 have key : ∃ N, (bl = upd A.bl A.nx N ∧ k = []) ∨ ∃ i X B, bl = upd (upd A.bl i X) A.nx N ∧ k = [i] ∧ A.bl i = some B := by
  unfold appE at h
  split at h
  · split at h
    · split at h
      · cases h
      · have h := bif_some h
        split at h
        · simp only [Option.some.injEq, Prod.mk.injEq] at h
          exact ⟨_, .inl ⟨h.2.1.symm, h.2.2.2.symm⟩⟩
        · split at h
          · rename_i B hB
            split at h
            · have h := bif_some h
              simp only [Option.some.injEq, Prod.mk.injEq] at h
              exact ⟨_, .inr ⟨_, _, B, h.2.1.symm, h.2.2.2.symm, hB⟩⟩
            · cases h
          · cases h
        · cases h
    · cases h
  · cases h
 obtain ⟨N, ⟨rfl, rfl⟩ | ⟨i, X, B, rfl, rfl, hB⟩⟩ := key
 · refine ⟨fun j hj => by rw [upd_ne (by omega)]; exact hnx j (by omega), fun j B hB hj => by rw [upd_ne (by simpa using hj)]; exact hB, fun j hj h0 => by rw [upd_ne (by omega)]; exact h0⟩
 · have hi := dom hB
   refine ⟨fun j hj => by rw [upd_ne (by omega), upd_ne (by omega)]; exact hnx j (by omega), fun j C hC hj => ?_, fun j hj h0 => ?_⟩
   · simp only [List.mem_cons, not_or] at hj
     rw [upd_ne hj.1, upd_ne hj.2.1]; exact hC
   · rw [upd_ne (by omega), upd_ne (fun e => by rw [e, hB] at h0; cases h0)]; exact h0
theorem bigF_nice {Γ : FuncId → Option Ctr} {inl : Inl} (hinl : InlNice inl) {A : AS} (hnx : NX A.bl A.nx) {o : Oper} {T : (SV → (Nat → Option Blk) → Nat → List Nat → Prop) → Prop} (h : bigF P Γ inl A o = some T) : NiceT A.bl A.nx T := by
 unfold bigF at h
 split at h
 · rename_i t x y _
   simp only [Option.some.injEq] at h; subst h
   intro K hK
   split at hK
   · rename_i b bl r k happ
     obtain ⟨hb, hK⟩ := needB_iff.1 hK
     obtain ⟨n1, n2, n3⟩ := appE_nx hnx happ
     refine ⟨fun r' b' n w => r' = r ∧ b' = bl ∧ n = A.nx + 1 ∧ w = A.nx :: k, ⟨_, _, _, _, rfl, rfl, rfl, rfl⟩, ?_, ?_⟩
     · rintro _ _ _ _ ⟨rfl, rfl, rfl, rfl⟩
       exact ⟨hK, n1, by omega, n2, n3⟩
     · intro K' h
       exact needB_iff.2 ⟨hb, h _ _ _ _ ⟨rfl, rfl, rfl, rfl⟩⟩
   · exact hK.elim
 · split at h
   · rename_i f args _
     simp only [Option.some.injEq] at h; subst h
     exact hinl.nil f args hnx
   · cases h
theorem appF_tm {A B : AS} {o : Oper} (h : ∀ x ∈ o.op.operands, ∀ G, ev B.tm G x = ev A.tm G x) : appF B o = appF A o := by
 unfold appF
 cases hg : o.guard with
 | some p => rfl
 | none =>
   cases ho : o.op with
   | call c =>
     simp only []
     cases hc : c.callee with
     | builtin b =>
       cases b <;> try rfl
       have : evs B.tm [] c.args.toList = evs A.tm [] c.args.toList := evs_congr fun x hx => h x (by rw [ho]; simp [Op.operands, Call.operands, hc]; simpa using hx) []
       simp only [this]
     | _ => rfl
   | _ => rfl
theorem calledF_tm {Γ : FuncId → Option Ctr} {A B : AS} {o : Oper} (h : ∀ x ∈ o.op.operands, ∀ G, ev B.tm G x = ev A.tm G x) : calledF Γ B o = calledF Γ A o := by
 unfold calledF
 cases hg : o.guard with
 | some p => rfl
 | none =>
   cases ho : o.op with
   | call c =>
     simp only []
     have : target B.tm [] c = target A.tm [] c := target_congr fun x hx => h x (by rw [ho]; exact hx) []
     simp only [this]
   | _ => rfl
theorem appE_bl {A B : AS} (h1 : B.bl = A.bl) (h2 : B.nx = A.nx) (t : TypeId) (x y : SV) : appE P B t x y = appE P A t x y := by
 unfold appE; rw [h1, h2]
theorem bigF_congr {Γ : FuncId → Option Ctr} {inl : Inl} {A B : AS} {o : Oper} (h : ∀ x ∈ o.op.operands, ∀ G, ev B.tm G x = ev A.tm G x) (h1 : B.bl = A.bl) (h2 : B.nx = A.nx) : bigF P Γ inl B o = bigF P Γ inl A o := by
 have e : ∀ t x y, appE P B t x y = appE P A t x y := appE_bl h1 h2
 unfold bigF
 rw [appF_tm h, calledF_tm h, h1, h2]
 cases appF A o with
 | some p =>
   obtain ⟨t, x, y⟩ := p
   show some _ = some _
   congr 1
   funext K
   rw [e t x y]
 | none => rfl
theorem bigF_none {Γ : FuncId → Option Ctr} {inl : Inl} {A B : AS} {o : Oper} (h : ∀ x ∈ o.op.operands, ∀ G, ev B.tm G x = ev A.tm G x) : bigF P Γ inl B o = none ↔ bigF P Γ inl A o = none := by
 unfold bigF
 rw [appF_tm h, calledF_tm h]
 cases appF A o with
 | some p => simp
 | none => cases calledF Γ A o <;> simp
theorem ops_ev {ops : Array Oper} {o : Oper} {d : Option Nat} {v : TV} {tm : Nat → TV} (h : ∀ x, d = some x → x ∉ o.looksAt ops) : ∀ x ∈ o.op.operands, ∀ G, ev (setT d v tm) G x = ev tm G x := fun x hxo G => ev_set (fun t e he => by
 subst e
 exact h t he (List.mem_append_left _ (List.mem_filterMap.2 ⟨.tmp t, by simpa using hxo, rfl⟩))) G
theorem okM_upd {ops : Array Oper} {h : Nat → Option Hst} {i x : Nat} {e : Hst} {ef : Bool} {rd wr : List Nat} (hx : x ≤ i) : okM ops (updH h i e) x ef rd wr = okM ops h x ef rd wr := by
 unfold okM
 rw [Bool.eq_iff_iff]
 simp only [List.all_eq_true, List.mem_range]
 have hu : ∀ y, y < x → updH h i e y = h y := fun y hy => by
  unfold updH; rw [nbeq, decide_eq_false (by omega)]; rfl
 constructor
 · intro hh y hy; have := hh y hy; rwa [hu y hy] at this
 · intro hh y hy; rw [hu y hy]; exact hh y hy
theorem okM_sub {ops : Array Oper} {h : Nat → Option Hst} {i x : Nat} {e : Hst} {ef : Bool} {rd wr : List Nat} (hn : h x = none) (ho : okM ops (updH h x e) i ef rd wr = true) : okM ops h i ef rd wr = true := by
 unfold okM at ho ⊢
 simp only [List.all_eq_true, List.mem_range] at ho ⊢
 intro y hy
 have := ho y hy
 by_cases hyx : y = x
 · subst hyx; rw [hn]; simp
 · have e1 : updH h x e y = h y := by unfold updH; rw [nbeq, decide_eq_false hyx]; rfl
   rwa [e1] at this
theorem okM_at {ops : Array Oper} {h : Nat → Option Hst} {i x : Nat} {e : Hst} {ef : Bool} {rd wr : List Nat} {ox oi : Oper} (hx : x < i) (h1 : ops.toList[x]? = some ox) (h2 : ops.toList[i]? = some oi) (hb : behind ops.toList ops.size i x = false)
 (ho : okM ops (updH h x e) i ef rd wr = true) : ox.apart ops oi = true ∧ (ef && e.ef) = false ∧ hits wr e.rd = false ∧ hits e.wr rd = false ∧ (e.ef = true → ∀ j ∈ rd, j < e.nx) := by
 unfold okM at ho
 simp only [List.all_eq_true, List.mem_range] at ho
 have := ho x hx
 have e1 : updH h x e x = some e := by unfold updH; rw [nbeq, decide_eq_true rfl]; rfl
 rw [hb, e1, h1, h2] at this
 simp only [Bool.false_or, Bool.and_eq_true, Bool.not_eq_true', Bool.or_eq_true, List.all_eq_true, blt_iff, decide_eq_true_eq] at this
 refine ⟨this.1.1.1.1, this.1.1.1.2, this.1.1.2, this.1.2, fun he j hj => ?_⟩
 rcases this.2 with h | h
 · rw [he] at h; cases h
 · exact h j hj
theorem hits_symm {a b : List Nat} (h : hits a b = false) : hits b a = false := by
 cases hh : hits b a with
 | false => rfl
 | true =>
   unfold hits at hh
   simp only [List.any_eq_true] at hh
   obtain ⟨x, hx, y, hy, hb⟩ := hh
   have hxy := Nat.eq_of_beq_eq_true hb
   subst hxy
   exact absurd hx (mem_hits h hy)
theorem updH_comm {h : Nat → Option Hst} {i j : Nat} {e f : Hst} (hij : i ≠ j) : updH (updH h i e) j f = updH (updH h j f) i e := by
 funext y
 simp only [updH, nbeq]
 by_cases h1 : y = j
 · subst h1; simp [Ne.symm hij]
 · simp [h1]
theorem step_some {Γ : FuncId → Option Ctr} {inl : Inl} {ops : Array Oper} {A : AS} {o : Oper} {K : Bool → List Nat → List Nat → AS → Prop} (hb : bigF P Γ inl A o = none) (h : opT P Γ inl ops A o K) :
 ∃ D, Stp P Γ ops A.nx o A D ∧ ((RO D ∧ K false D.E.rd [] (app D A.nx A)) ∨ (¬ RO D ∧ K true D.E.rd (footE A.nx D.E).2 { app D A.nx A with nx := A.nx + 1, wl := (footE A.nx D.E).2 ++ A.wl })) := by
 unfold opT at h
 rw [hb] at h
 simp only [] at h
 split at h
 · rename_i b A' f hs
   obtain ⟨hb, h⟩ := needB_iff.1 h
   subst hb
   obtain ⟨D, st, rfl, rfl⟩ := step_iff.1 hs
   refine ⟨D, st, ?_⟩
   split at h
   · rename_i hf
     exact .inl ⟨ro_foot.1 hf, h⟩
   · rename_i j l hf
     right
     rw [hf]
     exact ⟨fun hr => absurd ((ro_foot.2 hr).symm.trans hf) (by simp), h⟩
 · exact h.elim
theorem opT_ro {Γ : FuncId → Option Ctr} {inl : Inl} {ops : Array Oper} {A : AS} {o : Oper} {K : Bool → List Nat → List Nat → AS → Prop} (hb : bigF P Γ inl A o = none) {D : Dl} (st : Stp P Γ ops A.nx o A D) (hr : RO D) (h : K false D.E.rd [] (app D A.nx A)) : opT P Γ inl ops A o K := by
 unfold opT
 rw [hb]
 simp only [step_iff.2 ⟨D, st, rfl, rfl⟩]
 refine needB_iff.2 ⟨rfl, ?_⟩
 rw [ro_foot.2 hr]
 exact h
theorem opT_se {Γ : FuncId → Option Ctr} {inl : Inl} {ops : Array Oper} {A : AS} {o : Oper} {K : Bool → List Nat → List Nat → AS → Prop} (hb : bigF P Γ inl A o = none) {D : Dl} (st : Stp P Γ ops A.nx o A D) (hr : ¬ RO D)
 (h : K true D.E.rd (footE A.nx D.E).2 { app D A.nx A with nx := A.nx + 1, wl := (footE A.nx D.E).2 ++ A.wl }) : opT P Γ inl ops A o K := by
 unfold opT
 rw [hb]
 simp only [step_iff.2 ⟨D, st, rfl, rfl⟩]
 refine needB_iff.2 ⟨rfl, ?_⟩
 split
 · rename_i hf; exact absurd (ro_foot.1 hf) hr
 · rename_i j l hf; rw [hf] at h; exact h
theorem setF_false {d : Option Nat} {f : Nat → Bool} {x : Nat} (h : setF d f x = false) : f x = false := by
 cases d with
 | none => exact h
 | some d => rw [setF_some] at h; simp at h; exact h.2
theorem opT_swap {Γ : FuncId → Option Ctr} {inl : Inl} (hinl : InlNice inl) {ops : Array Oper} {x i : Nat} {ox oi : Oper} {A : AS} {h : Nat → Option Hst} {R : AS → (Nat → Option Hst) → Prop} (hos : OS A) (hnx : NX A.bl A.nx)
 (hxi : x < i) (hx : ops.toList[x]? = some ox) (hi : ops.toList[i]? = some oi) (hb : behind ops.toList ops.size i x = false) (h0 : h x = none)
 (hm : opT P Γ inl ops A ox fun ef rd wr A1 => needB (okM ops h x ef rd wr) (opT P Γ inl ops A1 oi fun ef' rd' wr' A2 => needB (okM ops (updH h x ⟨ef, rd, wr, bif ef then A.nx else 0⟩) i ef' rd' wr') (R A2 (updH (updH h x ⟨ef, rd, wr, bif ef then A.nx else 0⟩) i ⟨ef', rd', wr', bif ef' then A1.nx else 0⟩)))) :
 opT P Γ inl ops A oi fun ef' rd' wr' A1 => needB (okM ops h i ef' rd' wr') (opT P Γ inl ops A1 ox fun ef rd wr A2 => needB (okM ops (updH h i ⟨ef', rd', wr', bif ef' then A.nx else 0⟩) x ef rd wr) (R A2 (updH (updH h i ⟨ef', rd', wr', bif ef' then A.nx else 0⟩) x ⟨ef, rd, wr, bif ef then A1.nx else 0⟩))) := by
 have hne : x ≠ i := by omega
 have swapH : ∀ e e', updH (updH h i e') x e = updH (updH h x e) i e' := fun e e' => updH_comm (Ne.symm hne)
 have rdom : ∀ {B : AS} {id : Nat} {o : Oper} {D : Dl}, Stp P Γ ops id o B D → ∀ j ∈ D.E.rd, B.bl j ≠ none := by
  intro B id o D st j hj
  have src := st.src
  unfold Src at src
  cases hg : o.guard with
  | none => rw [hg] at src; exact eff_rd src.2.2.2 hj
  | some p =>
    obtain ⟨jj, bb⟩ := p
    rw [hg] at src
    obtain ⟨t, g, _, _, _, h4, _⟩ := src
    exact eff_rd h4 hj
 cases hbx : bigF P Γ inl A ox with
 | some T =>
   unfold opT at hm
   rw [hbx] at hm
   simp only [] at hm
   obtain ⟨S, ⟨r0, b0, n0, w0, hS0⟩, hS, suff⟩ := bigF_nice hinl hnx hbx _ hm
   have each : ∀ r b n w, S r b n w → ∃ D, Stp P Γ ops A.nx oi A D ∧ RO D ∧ ox.apart ops oi = true ∧ (∀ y, ox.dst = some y → y < A.nt ∧ A.ok y = false) ∧ bigF P Γ inl A oi = none ∧ okM ops h x true [] w = true ∧ okM ops h i false D.E.rd [] = true ∧
    R (app D n (bigS A ox.dst r b n (w ++ A.wl))) (updH (updH h x ⟨true, [], w, A.nx⟩) i ⟨false, D.E.rd, [], 0⟩) := by
    intro r b n w hs
    obtain ⟨hk, k1, k2, k3, k4⟩ := hS r b n w hs
    split at hk
    · rename_i Ax hp
      obtain ⟨rfl, hput⟩ := putD_iff.1 hp
      obtain ⟨q1, q2⟩ := needB_iff.1 hk
      have q2' : opT P Γ inl ops (bigS A ox.dst r b n (w ++ A.wl)) oi fun ef' rd' wr' A2 => needB (okM ops (updH h x ⟨true, [], w, A.nx⟩) i ef' rd' wr') (R A2 (updH (updH h x ⟨true, [], w, A.nx⟩) i ⟨ef', rd', wr', bif ef' then n else 0⟩)) := q2
      cases hbi : bigF P Γ inl (bigS A ox.dst r b n (w ++ A.wl)) oi with
      | some T' =>
        exfalso
        unfold opT at q2'
        rw [hbi] at q2'
        simp only [] at q2'
        obtain ⟨S', ⟨r1, b1, n1, w1, hs1⟩, hS', _⟩ := bigF_nice hinl (A := bigS A ox.dst r b n (w ++ A.wl)) k1 hbi _ q2'
        have := (hS' r1 b1 n1 w1 hs1).1
        split at this
        · obtain ⟨o1, _⟩ := needB_iff.1 this
          have := (okM_at hxi hx hi hb o1).2.1
          simp at this
        · exact this
      | none =>
        obtain ⟨D, st, ⟨hr, hk2⟩ | ⟨hr, hk2⟩⟩ := step_some hbi q2'
        · obtain ⟨o1, o2⟩ := needB_iff.1 hk2
          obtain ⟨a1, a2, a3, a4, a5⟩ := okM_at hxi hx hi hb o1
          obtain ⟨ap1, ap2, ap3⟩ := Oper.apart_spec a1
          have hd : ∀ y, ox.dst = some y → A.ok y = false ∧ y ∉ oi.looksAt ops := fun y hy => ⟨(hput y hy).2, ap1 y hy⟩
          have hrd : ∀ j ∈ D.E.rd, b j = A.bl j := by
           intro j hj
           have hjw : j ∉ w := fun hw => mem_hits a4 hw hj
           cases hB : A.bl j with
           | some B => rw [k3 j B hB hjw]
           | none => exact absurd (k4 j (a5 rfl j hj) hB) (rdom st j hj)
          have hfn : A.bl n = none := hnx n k2
          have st3 : Stp P Γ ops n oi A D := ⟨st.d, hfn, fun y hy => st.put y hy, (src_big (P := P) (Γ := Γ) (ops := ops) (id := n) (o := oi) (A := A) (D := D) (d := ox.dst) (r := r) (bl := b) (nx := n) (wl := w ++ A.wl) hos hr hd hrd).1 st.src⟩
          exact ⟨D, st3.reid hr (hnx _ (Nat.le_refl _)), hr, a1, hput, (bigF_none (ops_ev ap1)).1 hbi, q1, okM_sub h0 o1, o2⟩
        · obtain ⟨o1, _⟩ := needB_iff.1 hk2
          have := (okM_at hxi hx hi hb o1).2.1
          simp at this
    · exact hk.elim
   obtain ⟨D, st, hr, a1, hput, hbi, _, hoki, _⟩ := each r0 b0 n0 w0 hS0
   obtain ⟨ap1, ap2, ap3⟩ := Oper.apart_spec a1
   refine opT_ro hbi st hr (needB_iff.2 ⟨hoki, ?_⟩)
   have hbx' : bigF P Γ inl (app D A.nx A) ox = some T := by
    rw [← hbx]
    rw [app_ro hr]
    exact bigF_congr (ops_ev fun y hy => ap3 y (by rw [← st.d]; exact hy)) rfl rfl
   rw [opT, hbx']
   refine suff _ fun r b n w hs => ?_
   obtain ⟨D', st', hr', _, _, _, hokx, _, hR⟩ := each r b n w hs
   obtain rfl := st.det st'
   have hp : putD { app D A.nx A with bl := b, nx := n, wl := w ++ (app D A.nx A).wl } ox.dst (.v r) = some (bigS (app D A.nx A) ox.dst r b n (w ++ A.wl)) := by
    refine putD_iff.2 ⟨rfl, fun y hy => ⟨(hput y hy).1, ?_⟩⟩
    show setF (D.d.bind fun _ => D.key) A.ok y = false
    cases h3 : D.d with
    | none => exact (hput y hy).2
    | some e =>
      cases h4 : D.key with
      | none => exact (hput y hy).2
      | some k =>
        have hyk : y ≠ k := fun e => ap1 y hy (by rw [e]; exact key_looks st.src h4)
        simp only [Option.bind_some, setF_some, nbeq, (hput y hy).2]
        simp [hyk]
   show match putD { app D A.nx A with bl := b, nx := n, wl := w ++ (app D A.nx A).wl } ox.dst (.v r) with
    | some A' => _
    | none => False
   rw [hp]
   refine needB_iff.2 ⟨by rw [okM_upd (by omega)]; exact hokx, ?_⟩
   rw [swapH]
   rw [app_big hr n A.nx (fun y hy e => ap2 y e (by rw [← st.d]; exact hy))] at hR
   exact hR
 | none =>
   obtain ⟨Dx, sx, ⟨hrx, hk⟩ | ⟨hrx, hk⟩⟩ := step_some hbx hm
   ·
    obtain ⟨hokx, hk⟩ := needB_iff.1 hk
    have hAx := app_ro hrx A.nx A
    cases hbi : bigF P Γ inl (app Dx A.nx A) oi with
    | some T =>
      unfold opT at hk
      rw [hbi] at hk
      simp only [] at hk
      have hnx' : NX (app Dx A.nx A).bl (app Dx A.nx A).nx := by rw [hAx]; exact hnx
      obtain ⟨S, ⟨r0, b0, n0, w0, hS0⟩, hS, suff⟩ := bigF_nice hinl hnx' hbi _ hk
      have ap : ox.apart ops oi = true := by
       have := (hS r0 b0 n0 w0 hS0).1
       split at this
       · obtain ⟨o1, _⟩ := needB_iff.1 this
         exact (okM_at hxi hx hi hb o1).1
       · exact this.elim
      obtain ⟨ap1, ap2, ap3⟩ := Oper.apart_spec ap
      have hbi' : bigF P Γ inl A oi = some T := by
       have := bigF_congr (P := P) (Γ := Γ) (inl := inl) (A := A) (B := app Dx A.nx A) (o := oi) (ops_ev fun y hy => ap1 y (by rw [← sx.d]; exact hy)) (by rw [hAx]) (by rw [hAx])
       rw [← this]; exact hbi
      rw [opT, hbi']
      refine suff _ fun r b n w hs => ?_
      obtain ⟨hk, k1, k2, k3, k4⟩ := hS r b n w hs
      split at hk
      · rename_i A2 hp
        obtain ⟨rfl, hput⟩ := putD_iff.1 hp
        obtain ⟨o1, hR⟩ := needB_iff.1 hk
        obtain ⟨a1, a2, a3, a4, _⟩ := okM_at hxi hx hi hb o1
        have hput' : ∀ y, oi.dst = some y → y < A.nt ∧ A.ok y = false := fun y hy => ⟨(hput y hy).1, setF_false (hput y hy).2⟩
        have hp : putD { A with bl := b, nx := n, wl := w ++ A.wl } oi.dst (.v r) = some (bigS A oi.dst r b n (w ++ A.wl)) := putD_iff.2 ⟨rfl, hput'⟩
        show match putD { A with bl := b, nx := n, wl := w ++ A.wl } oi.dst (.v r) with
         | some A' => _
         | none => False
        rw [hp]
        refine needB_iff.2 ⟨okM_sub h0 o1, ?_⟩
        have hd : ∀ y, oi.dst = some y → A.ok y = false ∧ y ∉ ox.looksAt ops := fun y hy => ⟨(hput' y hy).2, ap3 y hy⟩
        have hrd : ∀ j ∈ Dx.E.rd, b j = A.bl j := by
         intro j hj
         have hjw : j ∉ w := fun hw => mem_hits a3 hw hj
         cases hB : A.bl j with
         | some B => exact k3 j B (by rw [hAx]; exact hB) hjw
         | none => exact absurd hB (rdom sx j hj)
        have k2' : A.nx ≤ n := k2
        have sx' : Stp P Γ ops n ox (bigS A oi.dst r b n (w ++ A.wl)) Dx :=
         ⟨sx.d, k1 n (Nat.le_refl _), fun y hy => sx.put y hy, (src_big hos hrx hd hrd).2 (sx.reid hrx (hnx n k2')).src⟩
        refine opT_ro (A := bigS A oi.dst r b n (w ++ A.wl)) ((bigF_none (ops_ev ap3)).2 hbx) sx' hrx ?_
        refine needB_iff.2 ⟨?_, ?_⟩
        · rw [okM_upd (by omega)]; exact hokx
        rw [swapH]
        show R (app Dx n (bigS A oi.dst r b n (w ++ A.wl))) _
        rw [app_big hrx n A.nx (fun y hy e => ap2 y (by rw [← sx.d]; exact hy) e)]
        exact hR
      · exact hk.elim
    | none =>
      obtain ⟨Di, si, hki⟩ := step_some hbi hk
      have ap : ox.apart ops oi = true ∧ hits (footE A.nx Di.E).2 Dx.E.rd = false := by
       rcases hki with ⟨hr, hki⟩ | ⟨hr, hki⟩
       · obtain ⟨o1, _⟩ := needB_iff.1 hki
         obtain ⟨a1, _⟩ := okM_at hxi hx hi hb o1
         exact ⟨a1, by rw [ro_foot.2 hr]; rfl⟩
       · obtain ⟨o1, _⟩ := needB_iff.1 hki
         obtain ⟨a1, _, a3, _⟩ := okM_at hxi hx hi hb o1
         exact ⟨a1, a3⟩
      obtain ⟨ap1, ap2, ap3⟩ := Oper.apart_spec ap.1
      have sx1 := sx.reid (id' := A.nx + 1) hrx (hnx _ (by omega))
      have e1 : app Dx (A.nx + 1) A = app Dx A.nx A := by rw [app_ro hrx, app_ro hrx]
      have hcl : clash (footE (A.nx + 1) Dx.E) (footE A.nx Di.E) = false := by
       unfold clash
       rw [ro_foot.2 hrx]
       have : hits (footE (A.nx + 1) Dx.E).1 (footE A.nx Di.E).2 = false := hits_symm ap.2
       rw [this]; rfl
      have si' : step P Γ ops A.nx oi (app Dx (A.nx + 1) A) = some (true, app Di A.nx (app Dx A.nx A), footE A.nx Di.E) := by rw [e1]; exact step_iff.2 ⟨Di, si, rfl, rfl⟩
      obtain ⟨A1, c1, c2⟩ := step_comm hos (step_iff.2 ⟨Dx, sx1, rfl, rfl⟩) si' ap.1 hcl (by omega)
      obtain ⟨Di', ti, rfl, fi⟩ := step_iff.1 c1
      obtain ⟨Dx', tx, ex, fx⟩ := step_iff.1 c2
      have hrx' : RO Dx' := ro_foot.1 (by rw [← fx]; exact ro_foot.2 hrx)
      have erd : Dx'.E.rd = Dx.E.rd := (congrArg Prod.fst fx).symm
      have eri : Di'.E.rd = Di.E.rd := (congrArg Prod.fst fi).symm
      have hbi' : bigF P Γ inl A oi = none := (bigF_none (A := A) (B := app Dx A.nx A) (ops_ev fun y hy => ap1 y (by rw [← sx.d]; exact hy))).1 hbi
      have hbx' : bigF P Γ inl (app Di' A.nx A) ox = none := (bigF_none (A := A) (B := app Di' A.nx A) (ops_ev fun y hy => ap3 y (by rw [← ti.d]; exact hy))).2 hbx
      rcases hki with ⟨hri, hki⟩ | ⟨hri, hki⟩
      · obtain ⟨o1, hR⟩ := needB_iff.1 hki
        have hri' : RO Di' := ro_foot.1 (by rw [← fi]; exact ro_foot.2 hri)
        refine opT_ro hbi' ti hri' (needB_iff.2 ⟨by rw [eri]; exact okM_sub h0 o1, ?_⟩)
        have hfr : (app Di' A.nx A).bl A.nx = none := by rw [app_ro hri']; exact hnx _ (Nat.le_refl _)
        refine opT_ro hbx' (tx.reid (id' := A.nx) hrx' hfr) hrx' (needB_iff.2 ⟨by rw [okM_upd (by omega), erd]; exact hokx, ?_⟩)
        rw [swapH, erd, eri]
        have : app Dx' A.nx (app Di' A.nx A) = app Di A.nx (app Dx A.nx A) := by
         rw [ex, app_ro hrx', app_ro hrx']
        show R (app Dx' A.nx (app Di' A.nx A)) _
        rw [this]; exact hR
      · obtain ⟨o1, hR⟩ := needB_iff.1 hki
        have hri' : ¬ RO Di' := fun h => hri (ro_foot.1 (by rw [fi]; exact ro_foot.2 h))
        have ew : (footE A.nx Di'.E).2 = (footE A.nx Di.E).2 := by rw [fi]
        refine opT_se hbi' ti hri' (needB_iff.2 ⟨by rw [eri, ew]; exact okM_sub h0 o1, ?_⟩)
        have hbx2 : bigF P Γ inl { app Di' A.nx A with nx := A.nx + 1, wl := (footE A.nx Di'.E).2 ++ A.wl } ox = none := (bigF_none (A := app Di' A.nx A) (B := { app Di' A.nx A with nx := A.nx + 1, wl := (footE A.nx Di'.E).2 ++ A.wl }) (fun _ _ _ => rfl)).2 hbx'
        refine opT_ro (A := { app Di' A.nx A with nx := A.nx + 1, wl := (footE A.nx Di'.E).2 ++ A.wl }) hbx2 ⟨tx.d, tx.fresh, tx.put, tx.src⟩ hrx' (needB_iff.2 ⟨by rw [okM_upd (by omega), erd]; exact hokx, ?_⟩)
        rw [swapH, erd, eri, ew]
        have : app Dx' (A.nx + 1) { app Di' A.nx A with nx := A.nx + 1, wl := (footE A.nx Di.E).2 ++ A.wl } = { app Di A.nx (app Dx A.nx A) with nx := A.nx + 1, wl := (footE A.nx Di.E).2 ++ A.wl } := by
         rw [ex]; rfl
        show R (app Dx' (A.nx + 1) { app Di' A.nx A with nx := A.nx + 1, wl := (footE A.nx Di.E).2 ++ A.wl }) _
        rw [this]; exact hR
   ·
    obtain ⟨hokx, hk⟩ := needB_iff.1 hk
    have hnx' : NX (applyE A.bl A.nx Dx.E) (A.nx + 1) := hnx.apply Dx.E (by omega) (Nat.le_refl _)
    cases hbi : bigF P Γ inl { app Dx A.nx A with nx := A.nx + 1, wl := (footE A.nx Dx.E).2 ++ A.wl } oi with
    | some T =>
      exfalso
      unfold opT at hk
      rw [hbi] at hk
      simp only [] at hk
      obtain ⟨S, ⟨r0, b0, n0, w0, hS0⟩, hS, _⟩ := bigF_nice hinl (A := { app Dx A.nx A with nx := A.nx + 1, wl := (footE A.nx Dx.E).2 ++ A.wl }) hnx' hbi _ hk
      have := (hS r0 b0 n0 w0 hS0).1
      split at this
      · obtain ⟨o1, _⟩ := needB_iff.1 this
        have := (okM_at hxi hx hi hb o1).2.1
        simp at this
      · exact this
    | none =>
      obtain ⟨Di, si, ⟨hri, hki⟩ | ⟨hri, hki⟩⟩ := step_some hbi hk
      · obtain ⟨o1, hR⟩ := needB_iff.1 hki
        obtain ⟨a1, _, _, a4, _⟩ := okM_at hxi hx hi hb o1
        obtain ⟨ap1, ap2, ap3⟩ := Oper.apart_spec a1
        have hcl : clash (footE A.nx Dx.E) (footE (A.nx + 1) Di.E) = false := by
         unfold clash
         rw [ro_foot.2 hri]
         have h1 : hits (footE A.nx Dx.E).2 (footE (A.nx + 1) Di.E).1 = false := a4
         have h2 : ∀ l : List Nat, hits l [] = false := fun l => by unfold hits; simp
         rw [h1, h2, h2]; rfl
        have si' : step P Γ ops (A.nx + 1) oi (app Dx A.nx A) = some (true, app Di (A.nx + 1) (app Dx A.nx A), footE (A.nx + 1) Di.E) := step_iff.2 ⟨Di, ⟨si.d, si.fresh, si.put, si.src⟩, rfl, rfl⟩
        obtain ⟨A1, c1, c2⟩ := step_comm hos (step_iff.2 ⟨Dx, sx, rfl, rfl⟩) si' a1 hcl (by omega)
        obtain ⟨Di', ti, rfl, fi⟩ := step_iff.1 c1
        obtain ⟨Dx', tx, ex, fx⟩ := step_iff.1 c2
        have hri' : RO Di' := ro_foot.1 (by rw [← fi]; exact ro_foot.2 hri)
        have hrx' : ¬ RO Dx' := fun h => hrx (ro_foot.1 (by rw [fx]; exact ro_foot.2 h))
        have erd : Dx'.E.rd = Dx.E.rd := (congrArg Prod.fst fx).symm
        have eri : Di'.E.rd = Di.E.rd := (congrArg Prod.fst fi).symm
        have ew : (footE A.nx Dx'.E).2 = (footE A.nx Dx.E).2 := by rw [fx]
        have hbi' : bigF P Γ inl A oi = none := (bigF_none (A := A) (B := { app Dx A.nx A with nx := A.nx + 1, wl := (footE A.nx Dx.E).2 ++ A.wl }) (ops_ev fun y hy => ap1 y (by rw [← sx.d]; exact hy))).1 hbi
        have hbx' : bigF P Γ inl (app Di' A.nx A) ox = none := (bigF_none (A := A) (B := app Di' A.nx A) (ops_ev fun y hy => ap3 y (by rw [← ti.d]; exact hy))).2 hbx
        have e1 : app Di' (A.nx + 1) A = app Di' A.nx A := by rw [app_ro hri', app_ro hri']
        refine opT_ro hbi' (ti.reid hri' (hnx _ (Nat.le_refl _))) hri' (needB_iff.2 ⟨by rw [eri]; exact okM_sub h0 o1, ?_⟩)
        rw [e1] at tx ex
        refine opT_se hbx' tx hrx' (needB_iff.2 ⟨by rw [okM_upd (by omega), erd]; show okM ops h x true Dx.E.rd (footE A.nx Dx'.E).2 = true; rw [ew]; exact hokx, ?_⟩)
        rw [swapH, erd, eri]
        have : ({ app Dx' A.nx (app Di' A.nx A) with nx := A.nx + 1, wl := (footE A.nx Dx.E).2 ++ A.wl } : AS) = app Di (A.nx + 1) { app Dx A.nx A with nx := A.nx + 1, wl := (footE A.nx Dx.E).2 ++ A.wl } := by
         rw [← ex]; rfl
        show R { app Dx' A.nx (app Di' A.nx A) with nx := A.nx + 1, wl := (footE A.nx Dx'.E).2 ++ A.wl } (updH (updH h x ⟨true, Dx.E.rd, (footE A.nx Dx'.E).2, A.nx⟩) i ⟨false, Di.E.rd, [], 0⟩)
        rw [ew, this]; exact hR
      · exfalso
        obtain ⟨o1, _⟩ := needB_iff.1 hki
        have := (okM_at hxi hx hi hb o1).2.1
        simp at this
theorem opT_mono {Γ : FuncId → Option Ctr} {inl : Inl} (hinl : InlNice inl) {ops : Array Oper} {A : AS} {o : Oper} (hos : OS A) (hnx : NX A.bl A.nx) {K K' : Bool → List Nat → List Nat → AS → Prop} (h : opT P Γ inl ops A o K)
 (hK : ∀ ef rd wr A', K ef rd wr A' → OS A' → NX A'.bl A'.nx → K' ef rd wr A') : opT P Γ inl ops A o K' := by
 cases hb : bigF P Γ inl A o with
 | some T =>
   rw [opT, hb] at h ⊢
   obtain ⟨S, _, hS, suff⟩ := bigF_nice hinl hnx hb _ h
   refine suff _ fun r b n w hs => ?_
   obtain ⟨hk, k1, _⟩ := hS r b n w hs
   split at hk
   · rename_i A' hp
     obtain ⟨rfl, hput⟩ := putD_iff.1 hp
     refine hK _ _ _ _ hk ?_ k1
     intro t u b' s ht
     have ht' : setT o.dst (.v r) A.tm t = .opt u b' s := ht
     by_cases hd : o.dst = some t
     · rw [hd, setT_some] at ht'; simp at ht'
     · rw [setT_ne hd] at ht'; exact hos t u b' s ht'
   · exact hk.elim
 | none =>
   obtain ⟨D, st, ⟨hr, hk⟩ | ⟨hr, hk⟩⟩ := step_some hb h
   · refine opT_ro hb st hr (hK _ _ _ _ hk (hos.app st) ?_)
     rw [app_ro hr]; exact hnx
   · refine opT_se hb st hr (hK _ _ _ _ hk ?_ ?_)
     · exact fun t u b s ht => hos.app st t u b s ht
     · exact hnx.apply D.E (by omega) (Nat.le_refl _)
theorem updH_none {h : Nat → Option Hst} {i x : Nat} {e : Hst} (hne : x ≠ i) : updH h i e x = h x := by
 unfold updH; rw [nbeq, decide_eq_false hne]; rfl
theorem opsM_bubble {Γ : FuncId → Option Ctr} {inl : Inl} (hinl : InlNice inl) {ops : Array Oper} {K : AS → Prop} {i : Nat} {v : List Nat} : ∀ (u : List Nat) (A : AS) (h : Nat → Option Hst), OS A → NX A.bl A.nx → u.Nodup →
 (∀ x ∈ u, x < i ∧ behind ops.toList ops.size i x = false ∧ h x = none) → opsM P Γ inl ops (u ++ i :: v) A h K → opsM P Γ inl ops (i :: (u ++ v)) A h K
 | [], A, h, _, _, _, _, hm => hm
 | x :: u, A, h, hos, hnx, hnd, hu, hm => by
   obtain ⟨hxi, hb, h0⟩ := hu x (by simp)
   simp only [List.cons_append, opsM] at hm
   split at hm
   · exact hm.elim
   · rename_i ox hox
     have hnd' := List.nodup_cons.1 hnd
     have hm2 := opT_mono hinl hos hnx hm (K' := fun ef rd wr A' => needB (okM ops h x ef rd wr) (opsM P Γ inl ops (i :: (u ++ v)) A' (updH h x ⟨ef, rd, wr, bif ef then A.nx else 0⟩) K)) (fun ef rd wr A' hk ho hn => by
      obtain ⟨k1, k2⟩ := needB_iff.1 hk
      refine needB_iff.2 ⟨k1, opsM_bubble hinl u A' _ ho hn hnd'.2 (fun y hy => ?_) k2⟩
      obtain ⟨a1, a2, a3⟩ := hu y (List.mem_cons_of_mem _ hy)
      exact ⟨a1, a2, by rw [updH_none (fun e => hnd'.1 (by rw [← e]; exact hy))]; exact a3⟩)
     simp only [opsM] at hm2 ⊢
     cases hi : ops.toList[i]? with
     | none =>
       exfalso
       rw [hi] at hm2
       cases hbx : bigF P Γ inl A ox with
       | some T =>
         rw [opT, hbx] at hm2
         obtain ⟨S, ⟨r0, b0, n0, w0, hs0⟩, hS, _⟩ := bigF_nice hinl hnx hbx _ hm2
         have := (hS r0 b0 n0 w0 hs0).1
         split at this
         · exact (needB_iff.1 this).2
         · exact this
       | none =>
         obtain ⟨D, _, ⟨_, hk⟩ | ⟨_, hk⟩⟩ := step_some hbx hm2
         · exact (needB_iff.1 hk).2
         · exact (needB_iff.1 hk).2
     | some oi =>
       rw [hi] at hm2
       simp only [List.cons_append, opsM, hox]
       exact opT_swap (R := fun A2 h2 => opsM P Γ inl ops (u ++ v) A2 h2 K) hinl hos hnx hxi hox hi hb h0 hm2
theorem opT_sound {Γ : FuncId → Option Ctr} (hΓ : GamOK P W0 Γ) {inl : Inl} (hinl : InlOK P W0 inl) {ops : Array Oper} {A : AS} {o : Oper} {Kc : Bool → List Nat → List Nat → AS → Prop} {β : Nat → Loc} {a : Act} {w : World}
 (h : opT P Γ inl ops A o Kc) (hs : Is W0 A β a w) {Q : Exit → Act → World → Prop} {KK : Act → World → Prop}
 (hK : ∀ ef rd wr A' a' w' β', Kc ef rd wr A' → Is W0 A' β' a' w' → Trs A β A' β' → KK a' w') :
 if Region.wanted o (yielded ops a.tmps) then o.wp P a w KK Q else KK (a.put o.dst undef) w := by
 cases hb : bigF P Γ inl A o with
 | none =>
   obtain ⟨D, st, hk⟩ := step_some hb h
   refine step_sound hΓ hs.fr hs.bc (Nat.le_refl _) (step_iff.2 ⟨D, st, rfl, rfl⟩) (fun a' w' β' r1 r2 r3 r4 r5 r6 => ?_)
   rcases hk with ⟨hr, hk⟩ | ⟨hr, hk⟩
   · refine hK _ _ _ _ a' w' β' hk ⟨r1, r2, ?_⟩ ⟨?_, fun i hi => hi, Nat.le_refl _, rfl⟩
     · rw [app_ro hr]; exact hs.nx
     · rw [ro_foot.2 hr] at r3
       exact r3.mono fun i hi => by cases hi
   · refine hK _ _ _ _ a' w' β' hk ⟨r1.frame _ _, r2, hs.nx.apply D.E (by omega) (Nat.le_refl _)⟩ ⟨?_, fun i hi => by simp [hi], by show A.nx ≤ A.nx + 1; omega, rfl⟩
     exact r3.mono fun i hi => by simp [hi]
 | some T =>
   rw [opT, hb] at h
   simp only [] at h
   unfold bigF at hb
   split at hb
   · rename_i t x y hc
     simp only [Option.some.injEq] at hb; subst hb
     split at h
     · rename_i b bl r k happ
       obtain ⟨hb, h⟩ := needB_iff.1 h
       obtain ⟨hg, c, hop, hcal, hty, hev⟩ := appF_spec hc
       have e1 := (evs_sound hs.fr (G := []) (fun p hp => by cases hp) hev).1
       obtain ⟨β', w', r1, r2, r3, r4, r5⟩ := appE_sound hs.bc hs.nx happ hb o.type
       rw [if_pos (by simp [Region.wanted, hg])]
       split at h
       · rename_i A1 hp
         have fr1 := (hs.fr.carry r5).frame (A.nx + 1) ((A.nx :: k) ++ A.wl)
         obtain ⟨q1, q2, q3, q4, q5⟩ := FR.putD fr1 r4 hp
         have e2 : c.args.map a.eval = #[x.conc β, y.conc β] := by apply Array.ext'; simpa [SV.concs] using e1
         have hrun : (execOp a.eval o).run P w = .ok (.value (r.conc β')) w' := by
          obtain ⟨o1, o2, o3, o4, o5, o6⟩ := o
          simp only [] at hop
          subst hop
          simp only [execOp, resolve, hcal, Sem.run_bind, Sem.run_pure, Result.andThen_ok, invoke, builtin, e2, hty, r1]
         unfold Oper.wp
         rw [hrun]
         refine hK _ _ _ A1 _ w' β' h ⟨q1, by rw [q2]; exact r2, by rw [q2, q3]; exact r3⟩ ⟨?_, ?_, ?_, q4⟩
         · rw [q2, q5]; exact r5.mono fun i hi => by simp [hi]
         · rw [q5]; exact fun i hi => by simp [hi]
         · rw [q3]; show A.nx ≤ A.nx + 1; omega
       · exact h.elim
     · exact h.elim
   · split at hb
     · rename_i f args hc
       simp only [Option.some.injEq] at hb; subst hb
       unfold calledF at hc
       split at hc
       · rename_i c hg ho
         split at hc
         · rename_i fo hcal
           split at hc
           · rename_i f' args' ht'
             split at hc
             · simp only [Option.some.injEq, Prod.mk.injEq] at hc
               obtain ⟨rfl, rfl⟩ := hc
               rw [if_pos (by simp [Region.wanted, hg])]
               obtain ⟨o1, o2, o3, o4, o5, o6⟩ := o
               simp only [] at hg ho
               subst hg; subst ho
               obtain ⟨_, hl⟩ := target_sound_live hs.fr ht'
               obtain ⟨hcb, hcalls⟩ := hinl f' args' A.bl A.nx [] _ β w h hs.bc hs.nx hl
               obtain ⟨r1, _⟩ := target_sound hs.fr (G := []) (fun p hp => by cases hp) ht' hcb o3 w
               have r2 : (execOp a.eval ⟨o1, .call c, o3, o4, o5, none⟩).run P w = .ok (.enter f' (SV.concs β args').toArray) w := r1
               unfold Oper.wp
               rw [r2]
               refine Calls.mono hcalls ?_
               rintro e w' ⟨β', r, bl', nx', wl', rfl, hk, k1, k2, k3, k4, k5, k6⟩
               split at hk
               · rename_i A1 hp
                 have fr1 := (hs.fr.carry k4).frame nx' (wl' ++ A.wl)
                 obtain ⟨q1, q2, q3, q4, q5⟩ := FR.putD fr1 k3 hp
                 refine hK _ _ _ A1 _ w' β' hk ⟨q1, by rw [q2]; exact k1, by rw [q2, q3]; exact k2⟩ ⟨?_, ?_, ?_, q4⟩
                 · rw [q2, q5]; exact k4.mono fun i hi => by simp [hi]
                 · rw [q5]; exact fun i hi => by simp [hi]
                 · rw [q3]; exact k6
               · exact hk.elim
             · cases hc
           · cases hc
         · cases hc
       · cases hc
     · cases hb
theorem wpAny_opsM {Γ : FuncId → Option Ctr} (hΓ : GamOK P W0 Γ) {inl : Inl} (hinl : InlOK P W0 inl) (hnice : InlNice inl) {ops : Array Oper} (hback : backOK ops = true) {Q : Exit → Act → World → Prop} {K : AS → Prop} {A0 : AS} {β0 : Nat → Loc}
 (hQ : ∀ A' a' w' β', K A' → Is W0 A' β' a' w' → Trs A0 β0 A' β' → Q .normal a' w') :
 ∀ (fuel : Nat) (listed : Array Bool) (rem : List Nat) (A : AS) (a : Act) (w : World) (β : Nat → Loc) (h : Nat → Option Hst), listed.size = ops.size → rem.length ≤ fuel → rem.Pairwise (· < ·) → (∀ x, x ∈ rem ↔ x < ops.size ∧ listed.getD x true = false) → Closed ops listed →
  (∀ x ∈ rem, h x = none) → opsM P Γ inl ops rem A h K → Is W0 A β a w → Trs A0 β0 A β → wpAny P .any ops Q fuel listed a w := by
 have hbk : ∀ i o, ops.toList[i]? = some o → ∀ e ∈ o.after.toList, Region.binds .any e = true → e.on < i := by
  intro i o ho e he hb
  unfold backOK at hback
  simp only [List.all_eq_true, List.mem_range] at hback
  have hi : i < ops.size := by
   rcases Nat.lt_or_ge i ops.size with h | h
   · exact h
   · rw [List.getElem?_eq_none (by simpa using h)] at ho; cases ho
  have := hback i hi
  rw [ho] at this
  simp only [List.all_eq_true, Bool.or_eq_true, Bool.not_eq_true', blt_iff, decide_eq_true_eq] at this
  rcases this e he with h | h
  · rw [hb] at h; cases h
  · exact h
 intro fuel
 induction fuel with
 | zero =>
   intro listed rem A a w β h hsz hlen hpw hrem hcl hh hm his htr
   have hnil : rem = [] := List.length_eq_zero_iff.1 (by omega)
   subst hnil
   refine ⟨?_, hQ A a w β hm his htr⟩
   apply List.eq_nil_iff_forall_not_mem.2
   intro i hi
   obtain ⟨hun, o, ho, _⟩ := mem_ready.1 hi
   have hlt : i < ops.size := (Array.getElem?_eq_some_iff.1 ho).1
   exact absurd ((hrem i).2 ⟨hlt, hun⟩) (by simp)
 | succ fuel ih =>
   intro listed rem A a w β h hsz hlen hpw hrem hcl hh hm his htr
   refine ⟨fun hr => ?_, fun i hi => ?_⟩
   · cases rem with
     | nil => exact hQ A a w β hm his htr
     | cons i r =>
       exfalso
       have him := (hrem i).1 (by simp)
       have ho : ∃ o, ops[i]? = some o := ⟨ops[i], by simp [him.1]⟩
       obtain ⟨o, ho⟩ := ho
       have : i ∈ Region.ready .any ops listed := by
        refine mem_ready.2 ⟨him.2, o, ho, fun e he hb => ?_⟩
        have hlt := hbk i o (by simpa using ho) e (by simpa using he) hb
        cases hl : listed.getD e.on false with
        | true => rfl
        | false =>
          have hes : e.on < listed.size := by omega
          have hun : listed.getD e.on true = false := by
           rw [← hl]; simp [Array.getD, hes]
          have hmem := (hrem e.on).2 ⟨by omega, hun⟩
          simp only [List.mem_cons] at hmem
          rcases hmem with h | h
          · omega
          · have := List.rel_of_pairwise_cons hpw h; omega
       rw [hr] at this; cases this
   · obtain ⟨hun, o, ho, hdeps⟩ := mem_ready.1 hi
     have hlt : i < ops.size := (Array.getElem?_eq_some_iff.1 ho).1
     have hol : ops.toList[i]? = some o := by simpa using ho
     have him : i ∈ rem := (hrem i).2 ⟨hlt, hun⟩
     obtain ⟨u, v, rfl⟩ := List.append_of_mem him
     have hpu : ∀ x ∈ u, x < i := fun x hx => (List.pairwise_append.1 hpw).2.2 x hx i (by simp)
     have hiu : i ∉ u := fun h => by have := hpu i h; omega
     have hiv : i ∉ v := fun h => by
      have := (List.pairwise_append.1 hpw).2.1
      have := List.rel_of_pairwise_cons this h
      omega
     have hnb : ∀ x ∈ u, x < i ∧ behind ops.toList ops.size i x = false ∧ h x = none := by
      intro x hx
      refine ⟨hpu x hx, ?_, hh x (by simp [hx])⟩
      cases hb : behind ops.toList ops.size i x with
      | false => rfl
      | true =>
        exfalso
        have hl := behind_listed hcl _ i x (fun o' ho' e he hb' => by
         rw [hol] at ho'; obtain rfl : o = o' := by simpa using ho'
         exact hdeps e (by simpa using he) hb') hb
        have hxm := (hrem x).1 (by simp [hx])
        have hxs : x < listed.size := by omega
        have := hxm.2
        simp [Array.getD, hxs] at this hl
        rw [this] at hl; cases hl
     have hnd : u.Nodup := (List.pairwise_append.1 hpw).1.imp fun h => by omega
     have hm2 := opsM_bubble hnice u A h his.fr.toOS his.nx hnd hnb hm
     simp only [opsM, hol] at hm2
     have k := opT_sound hΓ hinl hm2 his (Q := Q) (KK := wpAny P .any ops Q fuel (listed.setIfInBounds i true)) (fun ef rd wr A' a' w' β' hk r1 r2 => by
      obtain ⟨_, hk⟩ := needB_iff.1 hk
      refine ih (listed.setIfInBounds i true) (u ++ v) A' a' w' β' _ (by simp [hsz]) (by simp at hlen ⊢; omega) ?_ ?_ ?_ ?_ hk r1 (htr.trans r2)
      · have hp := List.pairwise_append.1 hpw
        refine List.pairwise_append.2 ⟨hp.1, (List.pairwise_cons.1 hp.2.1).2, fun x hx y hy => hp.2.2 x hx y (List.mem_cons_of_mem _ hy)⟩
      · intro x
        have hm := hrem x
        simp only [List.mem_append, List.mem_cons] at hm ⊢
        by_cases hxi : x = i
        · subst hxi
          constructor
          · rintro (h | h)
            · exact absurd h hiu
            · exact absurd h hiv
          · rintro ⟨_, h⟩
            have hxs : x < listed.size := by omega
            simp [Array.getD, hxs] at h
        · rw [getD_set_ne true (Ne.symm hxi), ← hm]
          constructor
          · rintro (h | h)
            · exact .inl h
            · exact .inr (.inr h)
          · rintro (h | h | h)
            · exact .inl h
            · exact absurd h hxi
            · exact .inr h
      · intro j hj o' ho' e he hb
        by_cases hji : j = i
        · subst hji
          rw [hol] at ho'; obtain rfl : o = o' := by simpa using ho'
          exact getD_set_true (hdeps e (by simpa using he) hb)
        · rw [getD_set_ne false (Ne.symm hji)] at hj
          exact getD_set_true (hcl j hj o' ho' e he hb)
      · intro x hx
        have hxi : x ≠ i := fun e => by
         subst e
         rcases List.mem_append.1 hx with h | h
         · exact hiu h
         · exact hiv h
        rw [updH_none hxi]
        exact hh x (by rcases List.mem_append.1 hx with h | h <;> simp [h]))
     unfold wpOp
     simp only [ho]
     by_cases hw : Region.wanted o (yielded ops a.tmps) = true
     · rw [if_pos hw] at k ⊢
       exact .inl k
     · rw [if_neg hw] at k ⊢
       exact k
theorem opsM_sound {Γ : FuncId → Option Ctr} (hΓ : GamOK P W0 Γ) (hmx : P.follows .mixedOrders = true) {inl : Inl} (hinl : InlOK P W0 inl) (hnice : InlNice inl) {ops : Array Oper} {rid : Nat} (hback : backOK ops = true) {Q : Exit → Act → World → Prop} {K : AS → Prop} {A : AS} {β : Nat → Loc} {a : Act} {w : World}
 (hm : opsM P Γ inl ops (List.range ops.size) A (fun _ => none) K) (hs : Is W0 A β a w) (hQ : ∀ A' a' w' β', K A' → Is W0 A' β' a' w' → Trs A β A' β' → Q .normal a' w') : (Code.region rid ops true).wp P Q a w := by
 refine wp_region_any hmx ?_
 have hbd : Below w.heap.size w { w with drawn := w.drawn + 1 } := (Below.refl _ _).drew
 refine wpAny_opsM hΓ hinl hnice hback hQ ops.size _ (List.range ops.size) A a _ β (fun _ => none) (by simp) (by simp) List.pairwise_lt_range ?_ ?_ (fun _ _ => rfl) hm ⟨hs.fr, hs.bc.step hbd, hs.nx⟩ (Trs.refl _ _)
 · intro x
   simp only [List.mem_range]
   simp [Array.getD]
 · intro i hi
   exfalso
   simp [Array.getD] at hi
end
section
variable {P : Program} {W0 : World}
theorem lookT_mem : ∀ {l : List (Nat × SV)} {t : Nat} {s : SV}, lookT l t = .v s → (t, s) ∈ l
 | [], t, s, h => by simp [lookT] at h
 | (u, r) :: l, t, s, h => by
   simp only [lookT] at h
   cases hb : Nat.beq t u with
   | true =>
     rw [hb] at h
     simp only [cond_true, TV.v.injEq] at h
     rw [Nat.eq_of_beq_eq_true hb, h]; simp
   | false => rw [hb] at h; exact List.mem_cons_of_mem _ (lookT_mem h)
theorem keepL_mem {A : AS} {t : Nat} {s : SV} (h : A.tm t = .v s) : ∀ {ks : List Nat}, ks.any (Nat.beq t) = true → (t, s) ∈ keepL A ks
 | [], h0 => by simp at h0
 | u :: r, h0 => by
   simp only [List.any_cons, Bool.or_eq_true] at h0
   unfold keepL
   rcases h0 with h1 | h1
   · have := Nat.eq_of_beq_eq_true h1
     subst this
     rw [h]; simp
   · have ih := keepL_mem h (ks := r) h1
     split
     · exact List.mem_cons_of_mem _ ih
     · exact ih
theorem headT_mem {A : AS} {l : List (Nat × SV)} {ks : List Nat} {t : Nat} {s : SV} (h : headT A l ks t = .v s) : (t, s) ∈ l ++ keepL A ks := by
 unfold headT at h
 split at h
 · rename_i s' h1
   simp only [TV.v.injEq] at h; subst h
   exact List.mem_append_left _ (lookT_mem h1)
 · cases hb : ks.any (Nat.beq t) with
   | false => rw [hb] at h; simp at h
   | true =>
     rw [hb] at h
     simp only [cond_true] at h
     split at h
     · rename_i s' h2
       simp only [TV.v.injEq] at h; subst h
       exact List.mem_append_right _ (keepL_mem h2 hb)
     · cases h
theorem headT_opt {A : AS} {l : List (Nat × SV)} {ks : List Nat} {t u : Nat} {b : Bool} {s : SV} (h : headT A l ks t = .opt u b s) : False := by
 unfold headT at h
 split at h
 · simp at h
 · cases hb : ks.any (Nat.beq t) with
   | false => rw [hb] at h; simp at h
   | true =>
     rw [hb] at h
     simp only [cond_true] at h
     split at h <;> simp at h
theorem lookB_spec {X : Type} {x : X} {bl : Nat → Option Blk} : ∀ {l : List (Nat × (X → Nat → List SV))} {i : Nat} {C : Blk}, lookB bl x l i = some C →
 (∃ g B, (i, g) ∈ l ∧ bl i = some B ∧ C = { B with get := g x }) ∨ (i ∉ l.map (·.1) ∧ bl i = some C)
 | [], i, C, h => .inr ⟨by simp, h⟩
 | (j, g) :: l, i, C, h => by
   simp only [lookB] at h
   cases hb : Nat.beq i j with
   | true =>
     rw [hb] at h
     have := Nat.eq_of_beq_eq_true hb
     subst this
     simp only [cond_true] at h
     split at h
     · rename_i B hB
       simp only [Option.some.injEq] at h
       exact .inl ⟨g, B, by simp, hB, h.symm⟩
     · cases h
   | false =>
     rw [hb] at h
     rw [nbeq] at hb
     rcases lookB_spec h with ⟨g', B, h1, h2, h3⟩ | ⟨h1, h2⟩
     · exact .inl ⟨g', B, List.mem_cons_of_mem _ h1, h2, h3⟩
     · exact .inr ⟨by simp only [List.map_cons, List.mem_cons, not_or]; exact ⟨by simpa using hb, h1⟩, h2⟩
theorem lookB_dom {X : Type} {x : X} {bl : Nat → Option Blk} : ∀ {l : List (Nat × (X → Nat → List SV))} {i : Nat}, bl i ≠ none ↔ lookB bl x l i ≠ none
 | [], i => Iff.rfl
 | (j, g) :: l, i => by
   simp only [lookB]
   cases hb : Nat.beq i j with
   | true => simp only [cond_true]; cases bl i <;> simp
   | false => simp only [cond_false]; exact lookB_dom
theorem lookS_spec {X : Type} {x : X} {bl : Nat → Option Blk} : ∀ {l : List (Nat × (X → List SV))} {i : Nat} {C : Blk}, lookS bl x l i = some C →
 (∃ g B, (i, g) ∈ l ∧ bl i = some B ∧ C = { B with get := fun _ => g x }) ∨ (i ∉ l.map (·.1) ∧ bl i = some C)
 | [], i, C, h => .inr ⟨by simp, h⟩
 | (j, g) :: l, i, C, h => by
   simp only [lookS] at h
   cases hb : Nat.beq i j with
   | true =>
     rw [hb] at h
     have := Nat.eq_of_beq_eq_true hb
     subst this
     simp only [cond_true] at h
     split at h
     · rename_i B hB
       simp only [Option.some.injEq] at h
       exact .inl ⟨g, B, by simp, hB, h.symm⟩
     · cases h
   | false =>
     rw [hb] at h
     rw [nbeq] at hb
     rcases lookS_spec h with ⟨g', B, h1, h2, h3⟩ | ⟨h1, h2⟩
     · exact .inl ⟨g', B, List.mem_cons_of_mem _ h1, h2, h3⟩
     · exact .inr ⟨by simp only [List.map_cons, List.mem_cons, not_or]; exact ⟨by simpa using hb, h1⟩, h2⟩
theorem lookS_dom {X : Type} {x : X} {bl : Nat → Option Blk} : ∀ {l : List (Nat × (X → List SV))} {i : Nat}, bl i ≠ none ↔ lookS bl x l i ≠ none
 | [], i => Iff.rfl
 | (j, g) :: l, i => by
   simp only [lookS]
   cases hb : Nat.beq i j with
   | true => simp only [cond_true]; cases bl i <;> simp
   | false => simp only [cond_false]; exact lookS_dom
theorem killB_spec {bl : Nat → Option Blk} {ks : List Nat} {i : Nat} {C : Blk} (h : killB bl ks i = some C) : (i ∈ ks ∧ ∃ B, bl i = some B ∧ C = { B with kd := .gone }) ∨ (i ∉ ks ∧ bl i = some C) := by
 unfold killB at h
 cases hb : ks.any (Nat.beq i) with
 | true =>
   rw [hb] at h
   simp only [List.any_eq_true] at hb
   obtain ⟨j, hj, he⟩ := hb
   rw [← Nat.eq_of_beq_eq_true he] at hj
   simp only [cond_true] at h
   split at h
   · rename_i B hB
     exact .inl ⟨hj, B, hB, by simpa using h.symm⟩
   · cases h
 | false =>
   rw [hb] at h
   refine .inr ⟨fun hm => ?_, h⟩
   have : ks.any (Nat.beq i) = true := List.any_eq_true.2 ⟨i, hm, by rw [nbeq]; simp⟩
   rw [hb] at this; cases this
theorem killB_dom {bl : Nat → Option Blk} {ks : List Nat} {i : Nat} : bl i ≠ none ↔ killB bl ks i ≠ none := by
 unfold killB
 cases ks.any (Nat.beq i) with
 | true => simp only [cond_true]; cases bl i <;> simp
 | false => exact Iff.rfl
theorem grB_spec {X : Type} {x : X} : ∀ {l : List (Gr X)} {j : Nat} {C : Blk}, grB x l j = some C → ∃ g, l[j]? = some g ∧ C = { n := g.n x, sz := g.sz, get := g.get x, kd := .own, nn := false }
 | [], j, C, h => by cases h
 | g :: r, 0, C, h => ⟨g, rfl, by simpa [grB] using h.symm⟩
 | g :: r, j + 1, C, h => grB_spec (l := r) h
theorem grB_dom {X : Type} {x : X} : ∀ {l : List (Gr X)} {j : Nat}, grB x l j ≠ none ↔ j < l.length
 | [], j => by simp [grB]
 | g :: r, 0 => by simp [grB]
 | g :: r, j + 1 => by simp only [grB, List.length_cons, Nat.add_lt_add_iff_right]; exact grB_dom
def renB (b : Nat) (rs : List (Option Nat)) (sz : Nat → Nat) (β : Nat → Loc) (i : Nat) : Loc := bif Nat.blt i b then β i else match rs[i - b]? with
 | some (some k) => β k
 | some none => ⟨0, 0, sz (i - b), 0, true⟩
 | none => β i
theorem renB_lt {b : Nat} {rs : List (Option Nat)} {sz : Nat → Nat} {β : Nat → Loc} {i : Nat} (h : i < b) : renB b rs sz β i = β i := by
 unfold renB; rw [blt_iff, decide_eq_true h]; rfl
theorem renB_some {b : Nat} {rs : List (Option Nat)} {sz : Nat → Nat} {β : Nat → Loc} {j k : Nat} (h : rs[j]? = some (some k)) : renB b rs sz β (b + j) = β k := by
 unfold renB
 rw [blt_iff, decide_eq_false (by omega : ¬ b + j < b)]
 simp [h]
theorem renB_none {b : Nat} {rs : List (Option Nat)} {sz : Nat → Nat} {β : Nat → Loc} {j : Nat} (h : rs[j]? = some none) : renB b rs sz β (b + j) = ⟨0, 0, sz j, 0, true⟩ := by
 unfold renB
 rw [blt_iff, decide_eq_false (by omega : ¬ b + j < b)]
 simp [h]
mutual
theorem ren_conc {b : Nat} {rs : List (Option Nat)} {sz : Nat → Nat} {β : Nat → Loc} : ∀ {s r : SV}, s.ren b rs = some r → r.conc β = s.conc (renB b rs sz β) ∧ ∀ i ∈ s.ids, i < b ∧ i ∈ r.ids ∨ (b ≤ i ∧ i - b < rs.length)
 | .val v, r, h => by simp [SV.ren] at h; subst h; simp [SV.conc, SV.ids]
 | .ptr id e o, r, h => by
   simp only [SV.ren] at h
   rw [blt_iff] at h
   by_cases hi : id < b
   · simp [hi] at h; subst h
     refine ⟨by simp only [SV.conc, addr, renB_lt hi], fun i hm => .inl ?_⟩
     simp only [SV.ids, List.mem_singleton] at hm ⊢
     subst hm; exact ⟨hi, rfl⟩
   · simp [hi] at h
 | .slc id e len, r, h => by
   simp only [SV.ren, renI] at h
   rw [blt_iff] at h
   by_cases hi : id < b
   · simp [hi] at h; subst h
     refine ⟨by simp only [SV.conc, addr, renB_lt hi], fun i hm => .inl ?_⟩
     simp only [SV.ids, List.mem_singleton] at hm ⊢
     subst hm; exact ⟨hi, rfl⟩
   · simp only [hi, decide_false, cond_false] at h
     have hid : id = b + (id - b) := by omega
     split at h
     · rename_i k hk
       simp only [Option.some.injEq] at h; subst h
       refine ⟨?_, fun i hm => .inr ?_⟩
       · simp only [SV.conc, addr]
         rw [hid, renB_some hk]
       · simp only [SV.ids, List.mem_singleton] at hm
         subst hm
         refine ⟨by omega, ?_⟩
         rcases Nat.lt_or_ge (i - b) rs.length with h' | h'
         · exact h'
         · rw [List.getElem?_eq_none h'] at hk; cases hk
     · rename_i hk
       simp only [Option.some.injEq] at h; subst h
       refine ⟨?_, fun i hm => .inr ?_⟩
       · simp only [SV.conc]
         rw [hid, renB_none hk]
         simp
       · simp only [SV.ids, List.mem_singleton] at hm
         subst hm
         refine ⟨by omega, ?_⟩
         rcases Nat.lt_or_ge (i - b) rs.length with h' | h'
         · exact h'
         · rw [List.getElem?_eq_none h'] at hk; cases hk
     · cases h
 | .agg cs, r, h => by
   simp only [SV.ren, Option.map_eq_some_iff] at h
   obtain ⟨rs', h1, rfl⟩ := h
   obtain ⟨k1, k2⟩ := rens_conc (sz := sz) (β := β) h1
   exact ⟨by simp only [SV.conc, k1], fun i hi => by simp only [SV.ids] at hi ⊢; exact k2 i hi⟩
 | .tup cs, r, h => by
   simp only [SV.ren, Option.map_eq_some_iff] at h
   obtain ⟨rs', h1, rfl⟩ := h
   obtain ⟨k1, k2⟩ := rens_conc (sz := sz) (β := β) h1
   exact ⟨by simp only [SV.conc, k1], fun i hi => by simp only [SV.ids] at hi ⊢; exact k2 i hi⟩
 | .fn f a c, r, h => by
   simp only [SV.ren] at h
   split at h
   · rename_i a' c' h1 h2
     simp only [Option.some.injEq] at h; subst h
     obtain ⟨k1, k2⟩ := rens_conc (sz := sz) (β := β) h1
     obtain ⟨l1, l2⟩ := rens_conc (sz := sz) (β := β) h2
     refine ⟨by simp only [SV.conc, k1, l1], fun i hi => ?_⟩
     simp only [SV.ids, List.mem_append] at hi ⊢
     rcases hi with hi | hi
     · rcases k2 i hi with ⟨a1, a2⟩ | a1
       · exact .inl ⟨a1, .inl a2⟩
       · exact .inr a1
     · rcases l2 i hi with ⟨a1, a2⟩ | a1
       · exact .inl ⟨a1, .inr a2⟩
       · exact .inr a1
   · cases h
theorem rens_conc {b : Nat} {rs : List (Option Nat)} {sz : Nat → Nat} {β : Nat → Loc} : ∀ {s r : List SV}, SV.rens b rs s = some r → SV.concs β r = SV.concs (renB b rs sz β) s ∧ ∀ i ∈ SV.idss s, i < b ∧ i ∈ SV.idss r ∨ (b ≤ i ∧ i - b < rs.length)
 | [], r, h => by simp [SV.rens] at h; subst h; simp [SV.concs, SV.idss]
 | x :: xs, r, h => by
   simp only [SV.rens] at h
   split at h
   · rename_i y ys h1 h2
     simp only [Option.some.injEq] at h; subst h
     obtain ⟨k1, k2⟩ := ren_conc (sz := sz) (β := β) h1
     obtain ⟨l1, l2⟩ := rens_conc (sz := sz) (β := β) h2
     refine ⟨by simp only [SV.concs, k1, l1], fun i hi => ?_⟩
     simp only [SV.idss, List.mem_append] at hi ⊢
     rcases hi with hi | hi
     · rcases k2 i hi with ⟨a1, a2⟩ | a1
       · exact .inl ⟨a1, .inl a2⟩
       · exact .inr a1
     · rcases l2 i hi with ⟨a1, a2⟩ | a1
       · exact .inl ⟨a1, .inr a2⟩
       · exact .inr a1
   · cases h
end
theorem meetT_mem {b : Nat} {rs : List (Option Nat)} {A : AS} : ∀ {l : List (Nat × SV)}, meetT b rs A l → ∀ p ∈ l, ∃ r, p.2.ren b rs = some r ∧ A.tm p.1 = .v r
 | [], _, p, hp => by cases hp
 | (t, s) :: l, h, p, hp => by
   obtain ⟨h1, h2⟩ := h
   rcases List.mem_cons.1 hp with rfl | hp
   · unfold eqO at h1
     split at h1
     · rename_i r hr; exact ⟨r, hr, h1⟩
     · exact h1.elim
   · exact meetT_mem h2 p hp
theorem allU_lt {f : Nat → Prop} : ∀ {n : Nat}, allU n f → ∀ e, e < n → f e
 | 0, _, e, he => by omega
 | k + 1, h, e, he => by
   by_cases h2 : e = k
   · subst h2; exact h.1
   · exact allU_lt h.2 e (by omega)
theorem meetB_mem {X : Type} {A : AS} {x : X} : ∀ {l : List (Nat × (X → Nat → List SV))}, meetB A x l → ∀ p ∈ l, ∃ B, A.bl p.1 = some B ∧ B.kd ≠ .gone ∧ ∀ e, e < B.n → B.get e = p.2 x e
 | [], _, p, hp => by cases hp
 | (i, g) :: l, h, p, hp => by
   obtain ⟨h1, h2⟩ := h
   rcases List.mem_cons.1 hp with rfl | hp
   · split at h1
     · rename_i B hB
       split at h1
       · exact h1.elim
       · rename_i hk
         exact ⟨B, hB, fun e => hk e, fun e he => allU_lt h1 e he⟩
     · exact h1.elim
   · exact meetB_mem h2 p hp
theorem meetC_mem {X : Type} {b : Nat} {rs : List (Option Nat)} {A : AS} {x : X} : ∀ {l : List (Nat × (X → List SV))}, meetC b rs A x l → ∀ p ∈ l, ∃ B cs, A.bl p.1 = some B ∧ SV.rens b rs (p.2 x) = some cs ∧ B.kd ≠ .gone ∧ B.n = 1 ∧ B.get 0 = cs
 | [], _, p, hp => by cases hp
 | (i, g) :: l, h, p, hp => by
   obtain ⟨h1, h2⟩ := h
   rcases List.mem_cons.1 hp with rfl | hp
   · split at h1
     · rename_i B cs hB hcs
       split at h1
       · exact h1.elim
       · rename_i hk
         obtain ⟨h3, h4⟩ := needB_iff.1 h1
         exact ⟨B, cs, hB, hcs, fun e => hk e, Nat.eq_of_beq_eq_true h3, h4⟩
     · exact h1.elim
   · exact meetC_mem h2 p hp
theorem meetG_mem {X : Type} {A : AS} {x : X} : ∀ {l : List (Gr X)} {rs : List (Option Nat)}, meetG A x l rs → rs.length = l.length ∧ ∀ (j : Nat) (g : Gr X), l[j]? = some g →
 (∃ i B, rs[j]? = some (some i) ∧ A.bl i = some B ∧ B.kd = .own ∧ B.sz = g.sz ∧ g.n x ≤ B.n ∧ ∀ e, e < g.n x → B.get e = g.get x e) ∨ (rs[j]? = some none ∧ g.n x = 0)
 | [], [], _ => ⟨rfl, fun j g h => by simp at h⟩
 | g :: l, some i :: rs, h => by
   obtain ⟨h1, h2⟩ := h
   obtain ⟨h3, h4⟩ := meetG_mem h2
   refine ⟨by simp [h3], fun j g' hg => ?_⟩
   cases j with
   | zero =>
     simp only [List.getElem?_cons_zero, Option.some.injEq] at hg; subst hg
     left
     split at h1
     · rename_i B hB
       split at h1
       · rename_i hk
         obtain ⟨h5, h6⟩ := needB_iff.1 h1
         simp only [Bool.and_eq_true, decide_eq_true_eq] at h5
         exact ⟨i, B, by simp, hB, hk, Nat.eq_of_beq_eq_true h5.1, h5.2, h6⟩
       · exact h1.elim
     · exact h1.elim
   | succ j => simpa using h4 j g' (by simpa using hg)
 | g :: l, none :: rs, h => by
   obtain ⟨h1, h2⟩ := h
   obtain ⟨h3, h4⟩ := meetG_mem h2
   refine ⟨by simp [h3], fun j g' hg => ?_⟩
   cases j with
   | zero =>
     simp only [List.getElem?_cons_zero, Option.some.injEq] at hg; subst hg
     exact .inr ⟨by simp, h1⟩
   | succ j => simpa using h4 j g' (by simpa using hg)
 | [], _ :: _, h => h.elim
 | _ :: _, [], h => h.elim
theorem someL_mem {l : List (Option Nat)} {i : Nat} : i ∈ someL l ↔ ∃ j : Nat, l[j]? = some (some i) := by
 induction l with
 | nil => simp [someL]
 | cons o l ih =>
   cases o with
   | some k =>
     simp only [someL, List.mem_cons, ih]
     constructor
     · rintro (rfl | ⟨j, hj⟩)
       · exact ⟨0, by simp⟩
       · exact ⟨j + 1, by simpa using hj⟩
     · rintro ⟨j, hj⟩
       cases j with
       | zero => simp at hj; exact .inl hj.symm
       | succ j => exact .inr ⟨j, by simpa using hj⟩
   | none =>
     simp only [someL, ih]
     constructor
     · rintro ⟨j, hj⟩; exact ⟨j + 1, by simpa using hj⟩
     · rintro ⟨j, hj⟩
       cases j with
       | zero => simp at hj
       | succ j => exact ⟨j, by simpa using hj⟩
theorem noDup_spec : ∀ {l : List (Option Nat)}, noDup (someL l) = true → ∀ {i : Nat} {j k : Nat}, l[j]? = some (some i) → l[k]? = some (some i) → j = k
 | [], _, i, j, k, h, _ => by simp at h
 | o :: l, hd, i, j, k, hj, hk => by
   have rest : noDup (someL l) = true := by
    cases o with
    | some m => simp only [someL, noDup, Bool.and_eq_true] at hd; exact hd.2
    | none => exact hd
   have first : ∀ {m : Nat}, o = some i → l[m]? = some (some i) → False := by
    intro m ho hm
    subst ho
    simp only [someL, noDup, Bool.and_eq_true, Bool.not_eq_true'] at hd
    have : (someL l).any (Nat.beq i) = true := List.any_eq_true.2 ⟨i, someL_mem.2 ⟨m, hm⟩, by rw [nbeq]; simp⟩
    rw [hd.1] at this; cases this
   cases j with
   | zero =>
     cases k with
     | zero => rfl
     | succ k => exact (first (by simpa using hj) (by simpa using hk)).elim
   | succ j =>
     cases k with
     | zero => exact (first (by simpa using hk) (by simpa using hj)).elim
     | succ k =>
       have := noDup_spec rest (i := i) (j := j) (k := k) (by simpa using hj) (by simpa using hk)
       rw [this]
theorem headB_lt {A : AS} {N : Ann} {x : N.X} {i : Nat} (h : i < A.nx) : headB A N x i = lookB (lookS (killB A.bl (killed A N)) x N.st) x N.bk i := by
 simp only [headB, blt_iff, decide_eq_true h, cond_true]
theorem headB_ge {A : AS} {N : Ann} {x : N.X} {j : Nat} : headB A N x (A.nx + j) = grB x N.gr j := by
 unfold headB; rw [blt_iff, decide_eq_false (by omega : ¬ A.nx + j < A.nx)]; simp
theorem headB_dom {A : AS} {N : Ann} {x : N.X} {i : Nat} (h : i < A.nx) : A.bl i ≠ none ↔ headB A N x i ≠ none := by
 rw [headB_lt h]
 exact killB_dom.trans (lookS_dom.trans lookB_dom)
theorem headB_spec {A : AS} {N : Ann} {x : N.X} {i : Nat} {C : Blk} (hi : i < A.nx) (h : headB A N x i = some C) :
 ∃ B, A.bl i = some B ∧ C.n = B.n ∧ C.sz = B.sz ∧ C.nn = B.nn ∧ (C.kd = B.kd ∨ (C.kd = .gone ∧ i ∈ killed A N)) ∧
  ((∃ g, (i, g) ∈ N.bk ∧ C.get = g x) ∨ (i ∉ N.bk.map (·.1) ∧ ∃ g, (i, g) ∈ N.st ∧ C.get = fun _ => g x) ∨ (i ∉ N.bk.map (·.1) ∧ i ∉ N.st.map (·.1) ∧ C.get = B.get ∧ (i ∉ killed A N → C = B))) := by
 rw [headB_lt hi] at h
 have kl : ∀ D, killB A.bl (killed A N) i = some D → ∃ B, A.bl i = some B ∧ D.n = B.n ∧ D.sz = B.sz ∧ D.nn = B.nn ∧ (D.kd = B.kd ∨ (D.kd = .gone ∧ i ∈ killed A N)) ∧ D.get = B.get ∧ (i ∉ killed A N → D = B) := by
  intro D hD
  rcases killB_spec hD with ⟨h1, B, h2, rfl⟩ | ⟨h1, h2⟩
  · exact ⟨B, h2, rfl, rfl, rfl, .inr ⟨rfl, h1⟩, rfl, fun h => absurd h1 h⟩
  · exact ⟨D, h2, rfl, rfl, rfl, .inl rfl, rfl, fun _ => rfl⟩
 rcases lookB_spec h with ⟨g, D, h1, h2, rfl⟩ | ⟨h1, h2⟩
 · rcases lookS_spec h2 with ⟨g', E, k1, k2, rfl⟩ | ⟨k1, k2⟩
   · obtain ⟨B, a1, a2, a3, a4, a5, _⟩ := kl E k2
     exact ⟨B, a1, a2, a3, a4, a5, .inl ⟨g, h1, rfl⟩⟩
   · obtain ⟨B, a1, a2, a3, a4, a5, _⟩ := kl D k2
     exact ⟨B, a1, a2, a3, a4, a5, .inl ⟨g, h1, rfl⟩⟩
 · rcases lookS_spec h2 with ⟨g', E, k1, k2, rfl⟩ | ⟨k1, k2⟩
   · obtain ⟨B, a1, a2, a3, a4, a5, _⟩ := kl E k2
     exact ⟨B, a1, a2, a3, a4, a5, .inr (.inl ⟨h1, g', k1, rfl⟩)⟩
   · obtain ⟨B, a1, a2, a3, a4, a5, a6, a7⟩ := kl C k2
     exact ⟨B, a1, a2, a3, a4, a5, .inr (.inr ⟨h1, k1, a6, a7⟩)⟩
theorem to_head {A : AS} (hnx : NX A.bl A.nx) (hlive : ∀ (id : Nat) (B : Blk) (e o : Nat) (s : SV), A.bl id = some B → B.kd ≠ .gone → e < B.n → (B.get e)[o]? = some s → Live A.bl s)
 (N : Ann) (x : N.X) (first : Bool) {A' : AS} {β : Nat → Loc} {a : Act} {w : World} (hs : Is W0 A' β a w) (hnt : A'.nt = A.nt)
 (hfirst : first = true → A' = A)
 (hkeep : ∀ i B, A.bl i = some B → ∃ B', A'.bl i = some B' ∧ B'.n = B.n ∧ (B'.sz = B.sz ∧ B'.nn = B.nn) ∧ (B'.kd = B.kd ∨ B'.kd = .gone) ∧ (i ∉ N.ids A → B' = B)) (hnew : ∀ i, i < A.nx → A.bl i = none → A'.bl i = none)
 (hm : meets first A A' N x) : ∃ γ, Is W0 (headS A N x) γ a w ∧ ∀ i, i < A.nx → γ i = β i := by
 unfold meets at hm
 split at hm
 · exact hm.elim
 · rename_i rs hrs
   obtain ⟨hd, ht, hb, hc, hg⟩ := needB_iff.1 hm
   simp only [Bool.and_eq_true] at hd
   obtain ⟨hdup, hold⟩ := hd
   obtain ⟨hlen, hgr⟩ := meetG_mem hg
   let sz : Nat → Nat := fun j => match N.gr[j]? with
    | some g => g.sz
    | none => 0
   have ldom : ∀ i, i < A.nx → A'.bl i ≠ none → headB A N x i ≠ none := fun i hi h => (headB_dom hi).1 fun h0 => h (hnew i hi h0)
   have lold : ∀ i, i < A.nx → A.bl i ≠ none → headB A N x i ≠ none := fun i hi h => (headB_dom hi).1 h
   have lnew : ∀ j, j < rs.length → headB A N x (A.nx + j) ≠ none := fun j hj => by rw [headB_ge]; exact grB_dom.2 (by omega)
   have key : ∀ i C, headB A N x i = some C → C.kd ≠ .gone → (i < A.nx ∧ ∃ B', A'.bl i = some B' ∧ B'.kd = C.kd ∧ B'.n = C.n ∧ B'.sz = C.sz ∧ B'.nn = C.nn ∧ i ∉ killed A N ∧
    ((∀ e, e < C.n → B'.get e = C.get e ∧ ∀ s ∈ C.get e, ∀ i' ∈ s.ids, i' < A.nx ∧ headB A N x i' ≠ none) ∨ (C.n = 1 ∧ SV.rens A.nx rs (C.get 0) = some (B'.get 0)))) ∨
    (∃ j g, i = A.nx + j ∧ N.gr[j]? = some g ∧ C = { n := g.n x, sz := g.sz, get := g.get x, kd := .own, nn := false }) := by
    intro i C hC hgn
    rcases Nat.lt_or_ge i A.nx with hi | hi
    · left
      refine ⟨hi, ?_⟩
      obtain ⟨B, b1, b2, b3, b4, b5, b6⟩ := headB_spec hi hC
      have hkd : C.kd = B.kd := by
       rcases b5 with b5 | b5
       · exact b5
       · exact absurd b5.1 hgn
      have hnk : i ∉ killed A N := by
       intro hk
       rw [headB_lt hi] at hC
       have g1 : ∀ D, killB A.bl (killed A N) i = some D → D.kd = .gone := by
        intro D hD
        rcases killB_spec hD with ⟨_, E, _, rfl⟩ | ⟨h1, _⟩
        · rfl
        · exact absurd hk h1
       have g2 : ∀ D, lookS (killB A.bl (killed A N)) x N.st i = some D → D.kd = .gone := by
        intro D hD
        rcases lookS_spec hD with ⟨_, E, _, h2, rfl⟩ | ⟨_, h2⟩
        · exact g1 E h2
        · exact g1 D h2
       rcases lookB_spec hC with ⟨_, E, _, h2, rfl⟩ | ⟨_, h2⟩
       · exact hgn (g2 E h2)
       · exact hgn (g2 C h2)
      obtain ⟨B', k1, k2, ⟨k3, k3'⟩, k4, k5⟩ := hkeep i B b1
      rcases b6 with ⟨g, h1, h2⟩ | ⟨h0, g, h1, h2⟩ | ⟨h0, h1, h2, h3⟩
      · obtain ⟨B'', m1, m2, m3⟩ := meetB_mem hb (i, g) h1
        simp only [] at m1 m3
        rw [k1] at m1
        obtain rfl : B' = B'' := by simpa using m1
        have hkd' : B'.kd = B.kd := by
         rcases k4 with k4 | k4
         · exact k4
         · exact absurd k4 m2
        refine ⟨B', k1, by rw [hkd', hkd], by rw [k2, b2], by rw [k3, b3], by rw [k3', b4], hnk, .inl fun e he => ⟨by rw [h2]; exact m3 e (by rw [k2, ← b2]; exact he), fun s hs i' hi' => ?_⟩⟩
        have hcl := N.clean (i, g) h1 x e
        have : i' ∈ SV.idss (g x e) := SV.mem_idss.2 ⟨s, by rw [h2] at hs; exact hs, hi'⟩
        rw [show SV.idss (g x e) = [] from hcl] at this; cases this
      · obtain ⟨B'', cs, m1, m2, m3, m4, m5⟩ := meetC_mem hc (i, g) h1
        simp only [] at m1 m2
        rw [k1] at m1
        obtain rfl : B' = B'' := by simpa using m1
        have hkd' : B'.kd = B.kd := by
         rcases k4 with k4 | k4
         · exact k4
         · exact absurd k4 m3
        exact ⟨B', k1, by rw [hkd', hkd], by rw [k2, b2], by rw [k3, b3], by rw [k3', b4], hnk, .inr ⟨by rw [b2, ← k2, m4], by rw [h2, m5]; exact m2⟩⟩
      · have hni : i ∉ N.ids A := by
         unfold Ann.ids
         simp only [List.mem_append, not_or]
         exact ⟨⟨h0, h1⟩, hnk⟩
        have := k5 hni
        subst this
        have hCB := h3 hnk
        subst hCB
        refine ⟨C, k1, rfl, rfl, rfl, rfl, hnk, .inl fun e he => ⟨rfl, fun s hs i' hi' => ?_⟩⟩
        obtain ⟨o, ho, e1⟩ := List.getElem_of_mem hs
        have hl := hlive i C e o s b1 hgn he (by rw [List.getElem?_eq_getElem ho, e1]) i' hi'
        rcases Nat.lt_or_ge i' A.nx with h' | h'
        · exact ⟨h', lold i' h' hl⟩
        · exact absurd (hnx i' h') hl
    · right
      obtain ⟨j, rfl⟩ := Nat.exists_eq_add_of_le hi
      rw [headB_ge] at hC
      obtain ⟨g, h1, h2⟩ := grB_spec hC
      exact ⟨j, g, rfl, h1, h2⟩
   have live_ren : ∀ (s r : SV), s.ren A.nx rs = some r → Live A'.bl r → Live (headB A N x) s := by
    intro s r hr hl i hi
    rcases (ren_conc (sz := sz) (β := β) hr).2 i hi with ⟨h1, h2⟩ | ⟨h1, h2⟩
    · exact ldom i h1 (hl i h2)
    · have := lnew (i - A.nx) h2
      rwa [show A.nx + (i - A.nx) = i by omega] at this
   have hsz : ∀ j g, N.gr[j]? = some g → sz j = g.sz := fun j g hj => by simp only [sz, hj]
   have noold : ∀ i, i < A.nx → i ∉ killed A N → i ∉ someL rs := by
    intro i hi hk hmem
    simp only [Bool.or_eq_true] at hold
    rcases hold with hold | hold
    · have := hfirst hold
      subst this
      apply hk
      unfold killed
      rw [hrs]; exact hmem
    · have := Nat.le_of_ble_eq_true (List.all_eq_true.1 hold i hmem)
      omega
   refine ⟨renB A.nx rs sz β, ⟨⟨hs.fr.defers, by rw [hs.fr.size, hnt]; rfl, ?_, ?_, ?_⟩, ⟨hs.bc.below, ?_, ?_, ?_, ?_, ?_⟩, ?_⟩, fun i hi => renB_lt hi⟩
   · intro t s h
     obtain ⟨r, h1, h2⟩ := meetT_mem ht (t, s) (headT_mem h)
     obtain ⟨k1, k2⟩ := hs.fr.v t r h2
     exact ⟨k1.trans (ren_conc h1).1, live_ren s r h1 k2⟩
   · intro t u b s h; exact (headT_opt h).elim
   · intro t u b s h; exact (headT_opt h).elim
   · intro i C hC hgn
     rcases key i C hC hgn with ⟨hi, B', k1, k2, k3, k4, k5, _, k6⟩ | ⟨j, g, rfl, hj, rfl⟩
     · have q := hs.bc.blk i B' k1 (by rw [k2]; exact hgn)
       refine ⟨by rw [renB_lt hi, q.sz, k4], by rw [renB_lt hi]; exact q.lt, by rw [renB_lt hi, ← k3]; exact q.le, ?_, by rw [renB_lt hi, ← k4]; exact q.ex, ?_, ?_, by rw [renB_lt hi]; exact q.nil, by rw [renB_lt hi, ← k5]; exact q.nn⟩
       · intro e he
         rcases k6 with k6 | ⟨c1, c2⟩
         · rw [← (k6 e he).1, q.len e (by rw [k3]; exact he), k4]
         · obtain rfl : e = 0 := by omega
           have hl := q.len 0 (by rw [k3]; exact he)
           rw [← k4, ← hl]
           have := congrArg List.length (rens_conc (sz := sz) (β := β) c2).1
           rw [SV.concs_eq, SV.concs_eq, List.length_map, List.length_map] at this
           exact this.symm
       · intro hk j hj; rw [renB_lt hi]; rw [renB_lt hi, ← k4] at hj; exact q.fr (by rw [k2]; exact hk) j hj
       · intro e he o s h
         have haddr : addr (renB A.nx rs sz β) i e o = addr β i e o := by unfold addr; rw [renB_lt hi]
         rw [haddr]
         rcases k6 with k6 | ⟨c1, c2⟩
         · obtain ⟨g1, g2⟩ := k6 e he
           rw [SV.conc_congr s (β := β) (β' := renB A.nx rs sz β) fun i' hi' => renB_lt (g2 s (List.mem_of_getElem? h) i' hi').1]
           exact q.val e (by rw [k3]; exact he) o s (by rw [g1]; exact h)
         · obtain rfl : e = 0 := by omega
           have hget := congrArg (fun l : List Value => l[o]?) (rens_conc (sz := sz) (β := β) c2).1
           simp only [SV.concs_eq, List.getElem?_map, h, Option.map_some] at hget
           cases hco : (B'.get 0)[o]? with
           | none => rw [hco] at hget; cases hget
           | some r =>
             rw [hco] at hget
             simp only [Option.map_some, Option.some.injEq] at hget
             rw [← hget]
             exact q.val 0 (by rw [k3]; exact he) o r hco
     · rcases hgr j g hj with ⟨i', B', g1, g2, g3, g4, g5, g6⟩ | ⟨g1, g2⟩
       · have q := hs.bc.blk i' B' g2 (by rw [g3]; simp)
         have e1 := renB_some (b := A.nx) (sz := sz) (β := β) g1
         refine ⟨by rw [e1, q.sz, g4], by rw [e1]; exact q.lt, by rw [e1]; exact Nat.le_trans g5 q.le, fun e he => by show (g.get x e).length = g.sz; rw [← g6 e he, q.len e (Nat.lt_of_lt_of_le he g5), g4], by rw [e1]; simp only [← g4]; exact q.ex, fun _ => by rw [e1]; simp only [← g4]; exact q.fr g3, ?_, by rw [e1]; exact q.nil, fun h => by cases h⟩
         intro e he o s h
         have haddr : addr (renB A.nx rs sz β) (A.nx + j) e o = addr β i' e o := by unfold addr; rw [e1]
         rw [haddr]
         have hcl := N.cleanG g (List.mem_of_getElem? hj) x e
         rw [SV.conc_congr s (β := β) (β' := renB A.nx rs sz β) fun k hk => by
          have : k ∈ SV.idss (g.get x e) := SV.mem_idss.2 ⟨s, List.mem_of_getElem? h, hk⟩
          rw [hcl] at this; cases this]
         exact q.val e (by simp at he; omega) o s (by rw [g6 e he]; exact h)
       · have e1 := renB_none (b := A.nx) (sz := sz) (β := β) g1
         have e2 : (renB A.nx rs sz β (A.nx + j)).nil = true := by rw [e1]
         have e3 : (renB A.nx rs sz β (A.nx + j)).cap = 0 := by rw [e1]
         refine ⟨by rw [e1]; exact hsz j g hj, fun h => absurd (e2.symm.trans h) (by decide), ?_, ?_, ?_, ?_, ?_, fun _ => e3, fun h => nomatch h⟩
         · simp [g2]
         · intro e he; simp [g2] at he
         · intro k hk; rw [e3] at hk; omega
         · intro _ k hk; rw [e3] at hk; omega
         · intro e he; simp [g2] at he
   · intro i C hC hk hn
     rcases key i C hC (by rw [hk]; simp) with ⟨hi, B', k1, k2, _⟩ | ⟨j, g, rfl, hj, rfl⟩
     · rw [renB_lt hi] at hn ⊢
       exact hs.bc.own i B' k1 (by rw [k2]; exact hk) hn
     · rcases hgr j g hj with ⟨i', B', g1, g2, g3, _⟩ | ⟨g1, _⟩
       · rw [renB_some g1] at hn ⊢; exact hs.bc.own i' B' g2 g3 hn
       · rw [renB_none g1] at hn; cases hn
   · intro i C hC hk hn
     rcases key i C hC (by rw [hk]; simp) with ⟨hi, B', k1, k2, _⟩ | ⟨j, g, rfl, hj, rfl⟩
     · rw [renB_lt hi] at hn ⊢
       exact hs.bc.old i B' k1 (by rw [k2]; exact hk) hn
     · cases hk
   · intro i k C D hC hD hkC hkD hn hn' heq
     rcases key i C hC (by rw [hkC]; simp) with ⟨hi, B', k1, k2, _, _, _, k6, _⟩ | ⟨j, g, rfl, hj, rfl⟩ <;> rcases key k D hD (by rw [hkD]; simp) with ⟨hk, D', l1, l2, _, _, _, l6, _⟩ | ⟨j', g', rfl, hj', rfl⟩
     · rw [renB_lt hi] at hn heq; rw [renB_lt hk] at hn' heq
       exact hs.bc.inj i k B' D' k1 l1 (by rw [k2]; exact hkC) (by rw [l2]; exact hkD) hn hn' heq
     · rcases hgr j' g' hj' with ⟨i', D', g1, g2, g3, _⟩ | ⟨g1, _⟩
       · rw [renB_lt hi] at hn heq; rw [renB_some g1] at hn' heq
         have := hs.bc.inj i i' B' D' k1 g2 (by rw [k2]; exact hkC) g3 hn hn' heq
         subst this
         exact absurd (someL_mem.2 ⟨j', g1⟩) (noold i hi k6)
       · rw [renB_none g1] at hn'; cases hn'
     · rcases hgr j g hj with ⟨i', D2, g1, g2, g3, _⟩ | ⟨g1, _⟩
       · rw [renB_lt hk] at hn' heq; rw [renB_some g1] at hn heq
         have := hs.bc.inj i' k D2 D' g2 l1 g3 (by rw [l2]; exact hkD) hn hn' heq
         subst this
         exact absurd (someL_mem.2 ⟨j, g1⟩) (noold i' hk l6)
       · rw [renB_none g1] at hn; cases hn
     · rcases hgr j g hj with ⟨i1, D1, g1, g2, g3, _⟩ | ⟨g1, _⟩
       · rcases hgr j' g' hj' with ⟨i2, D2, f1, f2, f3, _⟩ | ⟨f1, _⟩
         · rw [renB_some g1] at hn heq; rw [renB_some f1] at hn' heq
           have := hs.bc.inj i1 i2 D1 D2 g2 f2 g3 f3 hn hn' heq
           subst this
           rw [noDup_spec hdup g1 f1]
         · rw [renB_none f1] at hn'; cases hn'
       · rw [renB_none g1] at hn; cases hn
   · intro i C e o s hC hgn he h
     rcases key i C hC hgn with ⟨hi, B', k1, k2, k3, k4, k5, _, k6⟩ | ⟨j, g, rfl, hj, rfl⟩
     · rcases k6 with k6 | ⟨c1, c2⟩
       · exact fun i' hi' => ((k6 e he).2 s (List.mem_of_getElem? h) i' hi').2
       · obtain rfl : e = 0 := by omega
         intro i' hi'
         rcases (rens_conc (sz := sz) (β := β) c2).2 i' (SV.mem_idss.2 ⟨s, List.mem_of_getElem? h, hi'⟩) with ⟨h1, h2⟩ | ⟨h1, h2⟩
         · obtain ⟨y, hy, hiy⟩ := SV.mem_idss.1 h2
           obtain ⟨q, hq, e1⟩ := List.getElem_of_mem hy
           exact ldom i' h1 (hs.bc.live i B' 0 q y k1 (by rw [k2]; exact hgn) (by omega) (by rw [List.getElem?_eq_getElem hq, e1]) i' hiy)
         · have := lnew (i' - A.nx) h2
           rwa [show A.nx + (i' - A.nx) = i' by omega] at this
     · intro i' hi'
       have hcl := N.cleanG g (List.mem_of_getElem? hj) x e
       have : i' ∈ SV.idss (g.get x e) := SV.mem_idss.2 ⟨s, List.mem_of_getElem? h, hi'⟩
       rw [hcl] at this; cases this
   · intro i hi
     have hi' : A.nx + N.gr.length ≤ i := hi
     obtain ⟨j, rfl⟩ := Nat.exists_eq_add_of_le (show A.nx ≤ i by omega)
     show headB A N x (A.nx + j) = none
     rw [headB_ge]
     cases hgb : grB x N.gr j with
     | none => rfl
     | some C => have := grB_dom.1 (by rw [hgb]; simp : grB x N.gr j ≠ none); omega
theorem wrote_spec {nx : Nat} {wl ids : List Nat} (h : wrote nx wl ids = true) {i : Nat} (hi : i ∈ wl) (hn : i < nx) : i ∈ ids := by
 unfold wrote at h
 simp only [List.all_eq_true, Bool.or_eq_true] at h
 rcases h i hi with h | h
 · have := Nat.le_of_ble_eq_true h; omega
 · simp only [List.any_eq_true] at h
   obtain ⟨j, hj, hb⟩ := h
   rw [Nat.eq_of_beq_eq_true hb]; exact hj
def BodyOK (P : Program) (W0 : World) (c : Code) (body : (Exit → AS → Prop) → AS → Prop) : Prop :=
 ∀ (K : Exit → AS → Prop) (A : AS) (β : Nat → Loc) (a : Act) (w : World), body K A → Is W0 A β a w → c.wp P (Post W0 A β K) a w
theorem loopA_sound {c : Code} {body : (Exit → AS → Prop) → AS → Prop} (hb : BodyOK P W0 c body) {N : Ann} {K : Exit → AS → Prop} {A : AS} {β : Nat → Loc} {a : Act} {w : World}
 (h : loopA body N K A) (hs : Is W0 A β a w) : (Code.loop c).wp P (Post W0 A β K) a w := by
 obtain ⟨x0, h1, h2, h4⟩ := h
 have h4 := forX_all h4
 have hdom : ∀ {i : Nat} {B : Blk}, A.bl i = some B → i < A.nx := fun {i B} hB => by
  rcases Nat.lt_or_ge i A.nx with h | h
  · exact h
  · rw [hs.nx i h] at hB; cases hB
 have key : ∀ (m : Nat) (x : N.X) (a : Act) (w : World) (γ : Nat → Loc), N.mu x < m → N.inv x → Is W0 (headS A N x) γ a w → (∀ i, i < A.nx → A.bl i ≠ none → γ i = β i) →
  Code.rounds P c (Post W0 A β K) m a w := by
  intro m
  induction m with
  | zero => intro x a w γ hm; omega
  | succ m ih =>
    intro x a w γ hm hx his hγ
    rw [rounds_succ]
    refine Code.wp_mono ?_ (hb _ _ γ a w (h4 x hx) his)
    rintro e a' w' ⟨A', γ', hk, his', ht⟩
    have hkeep : ∀ i B, A.bl i = some B → ∃ B', A'.bl i = some B' ∧ B'.n = B.n ∧ (B'.sz = B.sz ∧ B'.nn = B.nn) ∧ (B'.kd = B.kd ∨ B'.kd = .gone) ∧ (i ∉ N.ids A → i ∉ A'.wl → B' = B) := by
     intro i B hB
     have hi := hdom hB
     have hd : headB A N x i ≠ none := (headB_dom hi).1 (by rw [hB]; simp)
     cases hC : headB A N x i with
     | none => exact absurd hC hd
     | some C =>
       obtain ⟨B', k1, k2, ⟨k3, k3'⟩, k4, k5⟩ := ht.tr.keep i C hC
       obtain ⟨B0, b1, b2, b3, b4, b5, b6⟩ := headB_spec hi hC
       rw [hB] at b1
       obtain rfl : B = B0 := by simpa using b1
       refine ⟨B', k1, by rw [k2, b2], ⟨by rw [k3, b3], by rw [k3', b4]⟩, ?_, fun hn hw => ?_⟩
       · rcases k4 with k4 | k4
         · rcases b5 with b5 | b5
           · exact .inl (k4.trans b5)
           · exact .inr (k4.trans b5.1)
         · exact .inr k4
       · unfold Ann.ids at hn
         simp only [List.mem_append, not_or] at hn
         rcases b6 with ⟨g, h1, _⟩ | ⟨_, g, h1, _⟩ | ⟨_, _, _, h3⟩
         · exact absurd (List.mem_map.2 ⟨_, h1, rfl⟩) hn.1.1
         · exact absurd (List.mem_map.2 ⟨_, h1, rfl⟩) hn.1.2
         · rw [k5 hw, h3 hn.2]
    have hnew : ∀ i, i < A.nx → A.bl i = none → A'.bl i = none := fun i hi h0 => ht.tr.new i (show i < A.nx + N.gr.length by omega) (by
     cases hC : headB A N x i with
     | none => exact hC
     | some C => exact absurd h0 ((headB_dom hi).2 (by rw [hC]; simp)))
    have hsame : ∀ i, i < A.nx → A.bl i ≠ none → γ' i = β i := fun i hn hi => (ht.tr.same i ((headB_dom hn).1 hi)).trans (hγ i hn hi)
    have hexit : ∀ e, e ≠ .normal → K e { A' with wl := N.ids A ++ A'.wl ++ A.wl } → Post W0 A β K e a' w' := fun e _ hk => by
     refine ⟨_, γ', hk, ⟨his'.fr.frame _ _, his'.bc, his'.nx⟩, ⟨⟨?_, fun i hi => ?_, hnew⟩, fun i hi => by simp [hi], Nat.le_trans (Nat.le_add_right _ _) ht.nx, ht.nt⟩⟩
     · intro i B hB
       obtain ⟨B', k1, k2, k3, k4, k5⟩ := hkeep i B hB
       refine ⟨B', k1, k2, k3, k4, fun hi => ?_⟩
       simp only [List.mem_append, not_or] at hi
       exact k5 hi.1.1 hi.1.2
     · cases hB : A.bl i with
       | none => exact absurd hB hi
       | some B => exact hsame i (hdom hB) hi
    cases e with
    | normal =>
      obtain ⟨g6, x', g1, g2, g3⟩ := needB_iff.1 hk
      obtain ⟨δ, d1, d2⟩ := to_head hs.nx hs.bc.live N x' false his' ht.nt (fun h => by cases h) (fun i B hB => by
       obtain ⟨B', k1, k2, k3, k4, k5⟩ := hkeep i B hB
       exact ⟨B', k1, k2, k3, k4, fun hn => k5 hn fun hw => hn (wrote_spec g6 hw (hdom hB))⟩) hnew g3
      exact ih x' a' w' δ (by omega) g1 d1 fun i hn hi => (d2 i hn).trans (hsame i hn hi)
    | exit id => exact hexit _ (by simp) hk
    | goto l => exact hexit _ (by simp) hk
    | ret => exact hexit _ (by simp) hk
    | panic ch => exact hexit _ (by simp) hk
    | outgrown => exact hexit _ (by simp) hk
 obtain ⟨δ, d1, d2⟩ := to_head hs.nx hs.bc.live N x0 true hs rfl (fun _ => rfl) (fun i B hB => ⟨B, hB, rfl, ⟨rfl, rfl⟩, .inl rfl, fun _ => rfl⟩) (fun _ _ h => h) h2
 exact wp_loop_rounds (N.mu x0 + 1) (key _ x0 a w δ (by omega) h1 d1 (fun i hi _ => d2 i hi))
theorem unroll_sound {c : Code} {body : (Exit → AS → Prop) → AS → Prop} (hb : BodyOK P W0 c body) {K : Exit → AS → Prop} {A0 : AS} {β0 : Nat → Loc} : ∀ (n : Nat) (A : AS) (β : Nat → Loc) (a : Act) (w : World),
 unroll body n K A → Is W0 A β a w → Trs A0 β0 A β → Code.rounds P c (Post W0 A0 β0 K) n a w
 | 0, A, β, a, w, h, _, _ => by simp [unroll] at h
 | n + 1, A, β, a, w, h, hs, ht => by
   simp only [unroll] at h
   rw [rounds_succ]
   refine Code.wp_mono ?_ (hb _ A β a w h hs)
   rintro e a' w' ⟨A', β', hk, hs', ht'⟩
   cases e with
   | normal => exact unroll_sound hb n A' β' a' w' hk hs' (ht.trans ht')
   | exit id => exact ⟨A', β', hk, hs', ht.trans ht'⟩
   | goto l => exact ⟨A', β', hk, hs', ht.trans ht'⟩
   | ret => exact ⟨A', β', hk, hs', ht.trans ht'⟩
   | panic ch => exact ⟨A', β', hk, hs', ht.trans ht'⟩
   | outgrown => exact ⟨A', β', hk, hs', ht.trans ht'⟩
theorem vc_sound {Γ : FuncId → Option Ctr} (hΓ : GamOK P W0 Γ) (hmx : P.follows .mixedOrders = true) {inl : Inl} (hinl : InlOK P W0 inl) (hnice : InlNice inl) (ann : Nat → Option (AS → Ann)) : ∀ c : Code, BodyOK P W0 c (vc P Γ inl ann c)
 | .skip => fun K A β a w h hs => wp_skip ⟨A, β, h, hs, Trs.refl _ _⟩
 | .label l => fun K A β a w h hs => wp_label ⟨A, β, h, hs, Trs.refl _ _⟩
 | .seq x y => fun K A β a w h hs => by
   refine wp_seq (Code.wp_mono ?_ (vc_sound hΓ hmx hinl hnice ann x _ A β a w h hs))
   rintro e a' w' ⟨A', β', hk, hs', ht⟩
   cases e with
   | normal => exact Code.wp_mono (Post.from ht) (vc_sound hΓ hmx hinl hnice ann y K A' β' a' w' hk hs')
   | exit id => exact ⟨A', β', hk, hs', ht⟩
   | goto l => exact ⟨A', β', hk, hs', ht⟩
   | ret => exact ⟨A', β', hk, hs', ht⟩
   | panic ch => exact ⟨A', β', hk, hs', ht⟩
   | outgrown => exact ⟨A', β', hk, hs', ht⟩
 | .cond c t f => fun K A β a w h hs => by
   simp only [vc] at h
   split at h
   · rename_i b hb
     obtain ⟨e1, _⟩ := ev_sound hs.fr (G := []) (fun p hp => by cases hp) hb
     obtain ⟨h1, h2⟩ := branch_iff.1 h
     refine wp_cond_split (t := b) (by simpa [SV.conc] using e1) (fun hbt => ?_) (fun hbf => ?_)
     · exact vc_sound hΓ hmx hinl hnice ann t K A β a w (h1 hbt) hs
     · exact vc_sound hΓ hmx hinl hnice ann f K A β a w (h2 hbf) hs
   · exact h.elim
 | .block id c => fun K A β a w h hs => by
   simp only [vc] at h
   refine wp_block (Code.wp_mono ?_ (vc_sound hΓ hmx hinl hnice ann c _ A β a w h hs))
   rintro e a' w' ⟨A', β', hk, hs', ht⟩
   cases e with
   | exit i =>
     simp only [Exit.inBlock] at hk ⊢
     by_cases hi : i = id
     · subst hi
       simp at hk
       rw [if_pos rfl]
       exact ⟨A', β', hk, hs', ht⟩
     · have : Nat.beq i id = false := by rw [nbeq]; simpa using hi
       rw [this] at hk
       rw [if_neg hi]
       exact ⟨A', β', hk, hs', ht⟩
   | normal => exact ⟨A', β', hk, hs', ht⟩
   | goto l => exact ⟨A', β', hk, hs', ht⟩
   | ret => exact ⟨A', β', hk, hs', ht⟩
   | panic ch => exact ⟨A', β', hk, hs', ht⟩
   | outgrown => exact ⟨A', β', hk, hs', ht⟩
 | .loop c => fun K A β a w h hs => by
   simp only [vc] at h
   split at h
   · exact wp_loop_rounds 40 (unroll_sound (vc_sound hΓ hmx hinl hnice ann c) 40 A β a w h hs (Trs.refl _ _))
   · exact loopA_sound (vc_sound hΓ hmx hinl hnice ann c) h hs
 | .scope c => fun K A β a w h hs => by
   simp only [vc] at h
   refine wp_scope_straight (Code.wp_mono ?_ (vc_sound hΓ hmx hinl hnice ann c _ A β a w h hs))
   rintro e a' w' ⟨A', β', hk, hs', ht⟩
   cases e with
   | goto l => exact hk.elim
   | normal => exact ⟨A', β', hk, hs', ht⟩
   | exit id => exact ⟨A', β', hk, hs', ht⟩
   | ret => exact ⟨A', β', hk, hs', ht⟩
   | panic ch => exact ⟨A', β', hk, hs', ht⟩
   | outgrown => exact ⟨A', β', hk, hs', ht⟩
 | .exit id => fun K A β a w h hs => wp_exit ⟨A, β, h, hs, Trs.refl _ _⟩
 | .ret => fun K A β a w h hs => wp_ret ⟨A, β, h, hs, Trs.refl _ _⟩
 | .region rid ops draw => fun K A β a w h hs => by
   simp only [vc] at h
   cases draw with
   | true =>
     simp only [cond_true] at h
     cases hbg : hasBig Γ A ops.toList with
     | true =>
       rw [hbg] at h
       simp only [cond_true] at h
       obtain ⟨hbk, h⟩ := needB_iff.1 h
       exact opsM_sound hΓ hmx hinl hnice hbk h hs fun A' a' w' β' hk his htr => ⟨_, β', hk, ⟨endG_fr his.fr, his.bc, his.nx⟩, ⟨htr.tr, htr.wl, htr.nx, htr.nt⟩⟩
     | false =>
     rw [hbg] at h
     simp only [cond_false] at h
     refine opsD_sound hΓ hmx (K := fun A' tr => K .normal { endG A' with nx := A.nx + ops.size, wl := foots tr ++ A.wl }) h hs.fr hs.bc ?_
     intro A' tr a' w' β' hk hfr hbc htr h1 h2 h3 h4
     refine ⟨_, β', hk, ⟨(endG_fr hfr).frame _ _, hbc, ?_⟩, ⟨?_, ?_, ?_, h3⟩⟩
     · exact fun i hi => h4 (fun j hj => hs.nx j (by omega)) i hi
     · exact htr.mono fun i hi => by simp [hi]
     · intro i hi; simp [hi]
     · show A.nx ≤ A.nx + ops.size; omega
   | false =>
     simp only [cond_false] at h
     refine wp_region_list (opsU_sound hΓ hinl (A0 := A) (β0 := β) ?_ ops.toList A a w β h hs (Trs.refl _ _))
     intro A' a' w' β' hk his htr
     exact ⟨_, β', hk, ⟨endG_fr his.fr, his.bc, his.nx⟩, ⟨htr.tr, htr.wl, htr.nx, htr.nt⟩⟩
 | .rangeFunc .. => fun K A β a w h hs => by simp [vc] at h
 | .goto l => fun K A β a w h hs => by simp [vc] at h
 | .refuse s => fun K A β a w h hs => by simp [vc] at h
structure Fr (A A' : AS) : Prop where
 nxs : NX A'.bl A'.nx
 nx : A.nx ≤ A'.nx
 wl : ∀ j ∈ A.wl, j ∈ A'.wl
 keep : ∀ j B, A.bl j = some B → j ∉ A'.wl → A'.bl j = some B
 new : ∀ j, j < A.nx → A.bl j = none → A'.bl j = none
theorem Fr.refl {A : AS} (h : NX A.bl A.nx) : Fr A A := ⟨h, Nat.le_refl _, fun _ h => h, fun _ _ h _ => h, fun _ _ h => h⟩
theorem Fr.trans {A B C : AS} (h : Fr A B) (k : Fr B C) : Fr A C :=
 ⟨k.nxs, Nat.le_trans h.nx k.nx, fun j hj => k.wl j (h.wl j hj), fun j D hD hj => k.keep j D (h.keep j D hD fun hw => hj (k.wl j hw)) hj, fun j hj h0 => k.new j (Nat.lt_of_lt_of_le hj h.nx) (h.new j hj h0)⟩
def NiceS (A : AS) (T : (Exit → AS → Prop) → Prop) : Prop :=
 ∀ K, T K → ∃ S : Exit → AS → Prop, (∃ e A', S e A') ∧ (∀ e A', S e A' → K e A' ∧ Fr A A') ∧ ∀ K', (∀ e A', S e A' → K' e A') → T K'
def NiceR (A : AS) (T : (AS → Prop) → Prop) : Prop :=
 ∀ K, T K → ∃ S : AS → Prop, (∃ A', S A') ∧ (∀ A', S A' → K A' ∧ Fr A A') ∧ ∀ K', (∀ A', S A' → K' A') → T K'
theorem NiceS.one {A A1 : AS} (e1 : Exit) (h : Fr A A1) : NiceS A (fun K => K e1 A1) := fun K hK =>
 ⟨fun e A' => e = e1 ∧ A' = A1, ⟨_, _, rfl, rfl⟩, by rintro e A' ⟨rfl, rfl⟩; exact ⟨hK, h⟩, fun K' h => h _ _ ⟨rfl, rfl⟩⟩
theorem NiceS.no {A : AS} {T : (Exit → AS → Prop) → Prop} (h : ∀ K, ¬ T K) : NiceS A T := fun K hK => absurd hK (h K)
theorem NiceR.one {A A1 : AS} (h : Fr A A1) : NiceR A (fun K => K A1) := fun K hK =>
 ⟨fun A' => A' = A1, ⟨_, rfl⟩, by rintro A' rfl; exact ⟨hK, h⟩, fun K' h => h _ rfl⟩
theorem NiceS.bind {A : AS} {T : (Exit → AS → Prop) → Prop} (h : NiceS A T) {F : (Exit → AS → Prop) → Exit → AS → Prop} (hF : ∀ e A1, Fr A A1 → NiceS A1 (fun K => F K e A1)) : NiceS A (fun K => T (F K)) := by
 intro K hK
 obtain ⟨S1, ⟨e0, A0, h0⟩, h1, h2⟩ := h _ hK
 have each : ∀ e A1, S1 e A1 → ∃ S : Exit → AS → Prop, (∃ e A', S e A') ∧ (∀ e A', S e A' → K e A' ∧ Fr A1 A') ∧ ∀ K', (∀ e A', S e A' → K' e A') → F K' e A1 := fun e A1 hs => hF e A1 (h1 e A1 hs).2 K (h1 e A1 hs).1
 refine ⟨fun e A' => ∃ (e1 : Exit) (A1 : AS) (S : Exit → AS → Prop), S1 e1 A1 ∧ ((∀ e A', S e A' → K e A' ∧ Fr A1 A') ∧ ∀ K', (∀ e A', S e A' → K' e A') → F K' e1 A1) ∧ S e A', ?_, ?_, ?_⟩
 · obtain ⟨S, ⟨e, A', hs⟩, k1, k2⟩ := each e0 A0 h0
   exact ⟨e, A', e0, A0, S, h0, ⟨k1, k2⟩, hs⟩
 · rintro e A' ⟨e1, A1, S, a1, ⟨a2, a3⟩, a4⟩
   exact ⟨(a2 e A' a4).1, (h1 e1 A1 a1).2.trans (a2 e A' a4).2⟩
 · intro K' hK'
   refine h2 _ fun e A1 hs => ?_
   obtain ⟨S, _, k1, k2⟩ := each e A1 hs
   exact k2 K' fun e' A' hs' => hK' e' A' ⟨e, A1, S, hs, ⟨k1, k2⟩, hs'⟩
theorem NiceR.bind {A : AS} {T : (AS → Prop) → Prop} (h : NiceR A T) {F : (AS → Prop) → AS → Prop} (hF : ∀ A1, Fr A A1 → NiceR A1 (fun K => F K A1)) : NiceR A (fun K => T (F K)) := by
 intro K hK
 obtain ⟨S1, ⟨A0, h0⟩, h1, h2⟩ := h _ hK
 have each : ∀ A1, S1 A1 → ∃ S : AS → Prop, (∃ A', S A') ∧ (∀ A', S A' → K A' ∧ Fr A1 A') ∧ ∀ K', (∀ A', S A' → K' A') → F K' A1 := fun A1 hs => hF A1 (h1 A1 hs).2 K (h1 A1 hs).1
 refine ⟨fun A' => ∃ (A1 : AS) (S : AS → Prop), S1 A1 ∧ ((∀ A', S A' → K A' ∧ Fr A1 A') ∧ ∀ K', (∀ A', S A' → K' A') → F K' A1) ∧ S A', ?_, ?_, ?_⟩
 · obtain ⟨S, ⟨A', hs⟩, k1, k2⟩ := each A0 h0
   exact ⟨A', A0, S, h0, ⟨k1, k2⟩, hs⟩
 · rintro A' ⟨A1, S, a1, ⟨a2, a3⟩, a4⟩
   exact ⟨(a2 A' a4).1, (h1 A1 a1).2.trans (a2 A' a4).2⟩
 · intro K' hK'
   refine h2 _ fun A1 hs => ?_
   obtain ⟨S, _, k1, k2⟩ := each A1 hs
   exact k2 K' fun A' hs' => hK' A' ⟨A1, S, hs, ⟨k1, k2⟩, hs'⟩
theorem NiceR.toS {A : AS} {T : (AS → Prop) → Prop} (h : NiceR A T) {g : AS → AS} (hg : ∀ A1, Fr A A1 → Fr A (g A1)) : NiceS A (fun K => T fun A' => K .normal (g A')) := by
 intro K hK
 obtain ⟨S, ⟨A0, h0⟩, h1, h2⟩ := h _ hK
 refine ⟨fun e A' => e = .normal ∧ ∃ A1, S A1 ∧ A' = g A1, ⟨.normal, _, rfl, A0, h0, rfl⟩, ?_, fun K' hK' => h2 _ fun A1 hs => hK' _ _ ⟨rfl, A1, hs, rfl⟩⟩
 rintro e A' ⟨rfl, A1, hs, rfl⟩
 exact ⟨(h1 A1 hs).1, hg A1 (h1 A1 hs).2⟩
theorem NiceR.need {A : AS} {T : (AS → Prop) → Prop} (h : NiceR A T) (b : Bool) : NiceR A (fun K => needB b (T K)) := by
 intro K hK
 obtain ⟨hb, hK⟩ := needB_iff.1 hK
 obtain ⟨S, s1, s2, s3⟩ := h K hK
 exact ⟨S, s1, s2, fun K' hK' => needB_iff.2 ⟨hb, s3 K' hK'⟩⟩
theorem NiceS.need {A : AS} {T : (Exit → AS → Prop) → Prop} (h : NiceS A T) (b : Bool) : NiceS A (fun K => needB b (T K)) := by
 intro K hK
 obtain ⟨hb, hK⟩ := needB_iff.1 hK
 obtain ⟨S, s1, s2, s3⟩ := h K hK
 exact ⟨S, s1, s2, fun K' hK' => needB_iff.2 ⟨hb, s3 K' hK'⟩⟩
theorem endG_frame {A A1 : AS} (h : Fr A A1) : Fr A (endG A1) := ⟨h.nxs, h.nx, h.wl, h.keep, h.new⟩
theorem app_fr {A : AS} (hnx : NX A.bl A.nx) {Γ : FuncId → Option Ctr} {ops : Array Oper} {o : Oper} {D : Dl} (st : Stp P Γ ops A.nx o A D) : Fr A { app D A.nx A with nx := A.nx + 1, wl := (footE A.nx D.E).2 ++ A.wl } := by
 have tr := applyE_tr (nx := A.nx) st.fresh (Nat.le_refl _) D.E (β := fun _ => ⟨0, 0, 0, 0, false⟩) (β' := fun _ => ⟨0, 0, 0, 0, false⟩) (fun _ _ => rfl)
 refine ⟨hnx.apply D.E (by omega) (Nat.le_refl _), by show A.nx ≤ A.nx + 1; omega, fun j hj => by simp [hj], fun j B hB hj => ?_, fun j hj h0 => tr.new j hj h0⟩
 obtain ⟨B', h1, _, _, _, h5⟩ := tr.keep j B hB
 have : j ∉ wrI D.E := fun h => hj (by simp [footE, h])
 rw [h5 this] at h1; exact h1
theorem app_fr0 {A : AS} (hnx : NX A.bl A.nx) {D : Dl} (hr : RO D) : Fr A (app D A.nx A) := by
 rw [app_ro hr]; exact ⟨hnx, Nat.le_refl _, fun _ h => h, fun _ _ h _ => h, fun _ _ h => h⟩
theorem opsU_nice {Γ : FuncId → Option Ctr} {inl : Inl} (hinl : InlNice inl) {ops : Array Oper} : ∀ (rest : List Oper) (A : AS), NX A.bl A.nx → NiceR A (fun K => opsU P Γ inl ops rest A K)
 | [], A, h => NiceR.one (Fr.refl h)
 | o :: rest, A, h => by
   intro K hK
   simp only [opsU] at hK ⊢
   split at hK
   · rename_i t x y hc
     split at hK
     · rename_i b bl r k happ
       obtain ⟨hb, hK⟩ := needB_iff.1 hK
       obtain ⟨n1, n2, n3⟩ := appE_nx h happ
       split at hK
       · rename_i A1 hp
         obtain ⟨rfl, _⟩ := putD_iff.1 hp
         have fr : Fr A ({ A with tm := setT o.dst (.v r) A.tm, bl := bl, nx := A.nx + 1, wl := A.nx :: (k ++ A.wl) } : AS) := ⟨n1, by show A.nx ≤ A.nx + 1; omega, fun j hj => by simp [hj], fun j B hB hj => n2 j B hB fun hm => hj (by simp at hm ⊢; rcases hm with h | h <;> simp [h]), n3⟩
         have hk' : k ++ A.wl = k ++ A.wl := rfl
         obtain ⟨S, s1, s2, s3⟩ := opsU_nice hinl rest ({ A with tm := setT o.dst (.v r) A.tm, bl := bl, nx := A.nx + 1, wl := k ++ A.wl } : AS) n1 K hK
         refine ⟨S, s1, fun A' hs => ⟨(s2 A' hs).1, ?_⟩, fun K' hK' => ?_⟩
         · have f2 := (s2 A' hs).2
           refine ⟨f2.nxs, Nat.le_trans (by show A.nx ≤ A.nx + 1; omega) f2.nx, fun j hj => f2.wl j (by simp [hj]), fun j B hB hj => ?_, fun j hj h0 => f2.new j (by show j < A.nx + 1; omega) (n3 j hj h0)⟩
           have hjn : j ≠ A.nx := fun e => by rw [e, h _ (Nat.le_refl _)] at hB; cases hB
           exact f2.keep j B (n2 j B hB (by simp only [List.mem_cons, not_or]; exact ⟨hjn, fun hm => hj (f2.wl j (by simp [hm]))⟩)) hj
         · try simp only [hc, happ, hp]
           exact needB_iff.2 ⟨hb, s3 K' hK'⟩
       · exact hK.elim
     · exact hK.elim
   · rename_i hc
     split at hK
     · rename_i f args hcf
       obtain ⟨S1, ⟨r0, b0, n0, w0, h0⟩, h1, h2⟩ := hinl f args A.bl A.nx A.wl h _ hK
       have each : ∀ r b n w, S1 r b n w → ∃ S : AS → Prop, (∃ A', S A') ∧ (∀ A', S A' → K A' ∧ Fr A A') ∧ ∀ K', (∀ A', S A' → K' A') → (match putD { A with bl := b, nx := n, wl := w } o.dst (.v r) with
        | some A' => opsU P Γ inl ops rest A' K'
        | none => False) := by
        intro r b n w hs
        obtain ⟨hk, k1, k2, k3, k4, k5⟩ := h1 r b n w hs
        split at hk
        · rename_i A1 hp
          obtain ⟨rfl, _⟩ := putD_iff.1 hp
          obtain ⟨S, s1, s2, s3⟩ := opsU_nice hinl rest ({ A with tm := setT o.dst (.v r) A.tm, bl := b, nx := n, wl := w } : AS) k1 K hk
          exact ⟨S, s1, fun A' hs => ⟨(s2 A' hs).1, (⟨k1, k2, k5, k3, k4⟩ : Fr A ({ A with tm := setT o.dst (.v r) A.tm, bl := b, nx := n, wl := w } : AS)).trans (s2 A' hs).2⟩, fun K' hK' => by first | exact s3 K' hK' | (rw [hp]; exact s3 K' hK')⟩
        · exact hk.elim
       refine ⟨fun A' => ∃ (r : SV) (b : Nat → Option Blk) (n : Nat) (w : List Nat) (S : AS → Prop), S1 r b n w ∧ ((∀ A', S A' → K A' ∧ Fr A A') ∧ ∀ K', (∀ A', S A' → K' A') → (match putD { A with bl := b, nx := n, wl := w } o.dst (.v r) with
        | some A' => opsU P Γ inl ops rest A' K'
        | none => False)) ∧ S A', ?_, ?_, ?_⟩
       · obtain ⟨S, ⟨A', hs⟩, k1, k2⟩ := each r0 b0 n0 w0 h0
         exact ⟨A', r0, b0, n0, w0, S, h0, ⟨k1, k2⟩, hs⟩
       · rintro A' ⟨r, b, n, w, S, a1, ⟨a2, a3⟩, a4⟩
         exact a2 A' a4
       · intro K' hK'
         try simp only [hc, hcf]
         refine h2 _ fun r b n w hs => ?_
         obtain ⟨S, _, k1, k2⟩ := each r b n w hs
         exact k2 K' fun A' hs' => hK' A' ⟨r, b, n, w, S, hs, ⟨k1, k2⟩, hs'⟩
     · rename_i hcf
       split at hK
       · rename_i b A1 f hst
         obtain ⟨hb, hK⟩ := needB_iff.1 hK
         subst hb
         obtain ⟨D, st, rfl, rfl⟩ := step_iff.1 hst
         have fr := app_fr h st
         obtain ⟨S, s1, s2, s3⟩ := opsU_nice hinl rest _ fr.nxs K hK
         refine ⟨S, s1, fun A' hs => ⟨(s2 A' hs).1, fr.trans (s2 A' hs).2⟩, fun K' hK' => ?_⟩
         try simp only [hc, hcf, hst]
         exact needB_iff.2 ⟨rfl, s3 K' hK'⟩
       · exact hK.elim
theorem opT_nice {Γ : FuncId → Option Ctr} {inl : Inl} (hinl : InlNice inl) {ops : Array Oper} {A : AS} {o : Oper} (h : NX A.bl A.nx) {K : Bool → List Nat → List Nat → AS → Prop} (hK : opT P Γ inl ops A o K) :
 ∃ S : Bool → List Nat → List Nat → AS → Prop, (∃ a b c d, S a b c d) ∧ (∀ a b c d, S a b c d → K a b c d ∧ Fr A d) ∧ ∀ K', (∀ a b c d, S a b c d → K' a b c d) → opT P Γ inl ops A o K' := by
 cases hb : bigF P Γ inl A o with
 | some T =>
   rw [opT, hb] at hK
   simp only [] at hK
   obtain ⟨S1, ⟨r0, b0, n0, w0, h0⟩, h1, h2⟩ := bigF_nice hinl h hb _ hK
   refine ⟨fun a b c d => a = true ∧ b = [] ∧ ∃ r bl n w, S1 r bl n w ∧ c = w ∧ putD { A with bl := bl, nx := n, wl := w ++ A.wl } o.dst (.v r) = some d, ?_, ?_, ?_⟩
   · have := (h1 r0 b0 n0 w0 h0).1
     split at this
     · rename_i A1 hp; exact ⟨true, [], w0, A1, rfl, rfl, r0, b0, n0, w0, h0, rfl, hp⟩
     · exact this.elim
   · rintro a b c d ⟨rfl, rfl, r, bl, n, w, hs, rfl, hp⟩
     obtain ⟨hk, k1, k2, k3, k4⟩ := h1 r bl n _ hs
     rw [hp] at hk
     refine ⟨hk, ?_⟩
     obtain ⟨rfl, _⟩ := putD_iff.1 hp
     exact ⟨k1, k2, fun j hj => by simp [hj], fun j B hB hj => k3 j B hB fun hw => hj (by simp [hw]), k4⟩
   · intro K' hK'
     rw [opT, hb]
     refine h2 _ fun r bl n w hs => ?_
     have := (h1 r bl n w hs).1
     split at this
     · rename_i A1 hp
       exact hK' _ _ _ _ ⟨rfl, rfl, r, bl, n, w, hs, rfl, hp⟩
     · exact this.elim
 | none =>
   obtain ⟨D, st, ⟨hr, hk⟩ | ⟨hr, hk⟩⟩ := step_some hb hK
   · refine ⟨fun a b c d => a = false ∧ b = D.E.rd ∧ c = [] ∧ d = app D A.nx A, ⟨_, _, _, _, rfl, rfl, rfl, rfl⟩, ?_, fun K' hK' => opT_ro hb st hr (hK' _ _ _ _ ⟨rfl, rfl, rfl, rfl⟩)⟩
     rintro a b c d ⟨rfl, rfl, rfl, rfl⟩
     exact ⟨hk, app_fr0 h hr⟩
   · refine ⟨fun a b c d => a = true ∧ b = D.E.rd ∧ c = (footE A.nx D.E).2 ∧ d = { app D A.nx A with nx := A.nx + 1, wl := (footE A.nx D.E).2 ++ A.wl }, ⟨_, _, _, _, rfl, rfl, rfl, rfl⟩, ?_, fun K' hK' => opT_se hb st hr (hK' _ _ _ _ ⟨rfl, rfl, rfl, rfl⟩)⟩
     rintro a b c d ⟨rfl, rfl, rfl, rfl⟩
     exact ⟨hk, app_fr h st⟩
theorem opsM_nice {Γ : FuncId → Option Ctr} {inl : Inl} (hinl : InlNice inl) {ops : Array Oper} : ∀ (rest : List Nat) (A : AS) (h : Nat → Option Hst), NX A.bl A.nx → NiceR A (fun K => opsM P Γ inl ops rest A h K)
 | [], A, h, hn => NiceR.one (Fr.refl hn)
 | i :: rest, A, h, hn => by
   intro K hK
   simp only [opsM] at hK ⊢
   cases ho : ops.toList[i]? with
   | none => rw [ho] at hK; exact hK.elim
   | some o =>
     rw [ho] at hK
     simp only [] at hK ⊢
     obtain ⟨S1, ⟨a0, b0, c0, d0, h0⟩, h1, h2⟩ := opT_nice hinl hn hK
     have each : ∀ a b c d, S1 a b c d → ∃ S : AS → Prop, (∃ A', S A') ∧ (∀ A', S A' → K A' ∧ Fr A A') ∧ ∀ K', (∀ A', S A' → K' A') → needB (okM ops h i a b c) (opsM P Γ inl ops rest d (updH h i ⟨a, b, c, bif a then A.nx else 0⟩) K') := by
      intro a b c d hs
      obtain ⟨hk, fr⟩ := h1 a b c d hs
      obtain ⟨hb, hk⟩ := needB_iff.1 hk
      obtain ⟨S, s1, s2, s3⟩ := opsM_nice hinl rest d _ fr.nxs K hk
      exact ⟨S, s1, fun A' hs => ⟨(s2 A' hs).1, fr.trans (s2 A' hs).2⟩, fun K' hK' => needB_iff.2 ⟨hb, s3 K' hK'⟩⟩
     refine ⟨fun A' => ∃ (a : Bool) (b c : List Nat) (d : AS) (S : AS → Prop), S1 a b c d ∧ ((∀ A', S A' → K A' ∧ Fr A A') ∧ ∀ K', (∀ A', S A' → K' A') → needB (okM ops h i a b c) (opsM P Γ inl ops rest d (updH h i ⟨a, b, c, bif a then A.nx else 0⟩) K')) ∧ S A', ?_, ?_, ?_⟩
     · obtain ⟨S, ⟨A', hs⟩, k1, k2⟩ := each a0 b0 c0 d0 h0
       exact ⟨A', a0, b0, c0, d0, S, h0, ⟨k1, k2⟩, hs⟩
     · rintro A' ⟨a, b, c, d, S, a1, ⟨a2, a3⟩, a4⟩
       exact a2 A' a4
     · intro K' hK'
       refine h2 _ fun a b c d hs => ?_
       obtain ⟨S, _, k1, k2⟩ := each a b c d hs
       exact k2 K' fun A' hs' => hK' A' ⟨a, b, c, d, S, hs, ⟨k1, k2⟩, hs'⟩
theorem opsD_det {Γ : FuncId → Option Ctr} {ops : Array Oper} {base : Nat} {K : AS → List Foot → Prop} : ∀ (rest : List Oper) (i : Nat) (A : AS) (tr : List Foot), opsD P Γ ops base rest i A tr K →
 ∃ A' trs, K A' (tr.reverse ++ trs) ∧ (∀ K', K' A' (tr.reverse ++ trs) → opsD P Γ ops base rest i A tr K') ∧ A'.nx = A.nx ∧ A'.wl = A.wl ∧ (∀ j B, A.bl j = some B → j ∉ foots trs → A'.bl j = some B) ∧ ∀ j, (j < base + i ∨ base + i + rest.length ≤ j) → A.bl j = none → A'.bl j = none
 | [], i, A, tr, h => ⟨A, [], by simpa [opsD] using h, fun K' h => by simpa [opsD] using h, rfl, rfl, fun _ _ h _ => h, fun _ _ h => h⟩
 | o :: rest, i, A, tr, h => by
   simp only [opsD] at h ⊢
   split at h
   · rename_i b A1 f hs
     obtain ⟨hb, h⟩ := needB_iff.1 h
     subst hb
     obtain ⟨A', trs, h1, h2, h3, h4, h5, h6⟩ := opsD_det rest (i + 1) A1 (f :: tr) h
     obtain ⟨D, st, rfl, rfl⟩ := step_iff.1 hs
     have tr' := applyE_tr (nx := base + i) st.fresh (Nat.le_refl _) D.E (β := fun _ => ⟨0, 0, 0, 0, false⟩) (β' := fun _ => ⟨0, 0, 0, 0, false⟩) (fun _ _ => rfl)
     refine ⟨A', footE (base + i) D.E :: trs, by simpa using h1, fun K' hK' => needB_iff.2 ⟨rfl, h2 K' (by simpa using hK')⟩, h3, h4, fun j B hB hj => ?_, fun j hj h0 => ?_⟩
     · simp only [foots, List.mem_append, not_or] at hj
       obtain ⟨B', k1, _, _, _, k5⟩ := tr'.keep j B hB
       have : j ∉ wrI D.E := fun h => hj.1 (by simp [footE, h])
       exact h5 j B (by show applyE A.bl (base + i) D.E j = some B; rw [k1, k5 this]) hj.2
     · refine h6 j (by simp only [List.length_cons] at hj; omega) ?_
       show applyE A.bl (base + i) D.E j = none
       have hne : j ≠ base + i := by simp only [List.length_cons] at hj; omega
       rw [applyE_other ?_ ?_]
       · exact h0
       · intro hm
         have src := st.src
         unfold Src at src
         cases hg : o.guard with
         | none => rw [hg] at src; exact eff_wr src.2.2.2 hm h0
         | some p =>
           obtain ⟨jj, bb⟩ := p
           rw [hg] at src
           obtain ⟨t, g, _, _, _, _, k5, _⟩ := src
           simp [wrI, k5] at hm
       · intro hm
         unfold nwI at hm
         split at hm
         · simp at hm; exact hne hm
         · cases hm
   · exact h.elim
theorem vc_nice {Γ : FuncId → Option Ctr} {inl : Inl} (hinl : InlNice inl) (ann : Nat → Option (AS → Ann)) : ∀ (c : Code) (A : AS), NX A.bl A.nx → NiceS A (fun K => vc P Γ inl ann c K A)
 | .skip, A, h => NiceS.one .normal (Fr.refl h)
 | .label l, A, h => NiceS.one .normal (Fr.refl h)
 | .exit id, A, h => NiceS.one (.exit id) (Fr.refl h)
 | .ret, A, h => NiceS.one .ret (Fr.refl h)
 | .seq x y, A, h => NiceS.bind (vc_nice hinl ann x A h) (F := fun K e A' => match e with
    | .normal => vc P Γ inl ann y K A'
    | e => K e A') fun e A1 fr => by
   cases e with
   | normal => exact vc_nice hinl ann y A1 fr.nxs
   | _ => exact NiceS.one _ (Fr.refl fr.nxs)
 | .cond c t f, A, h => by
   simp only [vc]
   split
   · rename_i b _
     cases b with
     | true => exact vc_nice hinl ann t A h
     | false => exact vc_nice hinl ann f A h
   · exact NiceS.no fun K h => h
 | .block id c, A, h => NiceS.bind (vc_nice hinl ann c A h) (F := fun K e A' => match e with
    | .exit i => bif Nat.beq i id then K .normal A' else K (.exit i) A'
    | e => K e A') fun e A1 fr => by
   cases e with
   | exit i =>
     simp only []
     cases Nat.beq i id with
     | true => exact NiceS.one _ (Fr.refl fr.nxs)
     | false => exact NiceS.one _ (Fr.refl fr.nxs)
   | _ => exact NiceS.one _ (Fr.refl fr.nxs)
 | .scope c, A, h => NiceS.bind (vc_nice hinl ann c A h) (F := fun K e A' => match e with
    | .goto _ => False
    | e => K e A') fun e A1 fr => by
   cases e with
   | goto l => exact NiceS.no fun K h => h
   | _ => exact NiceS.one _ (Fr.refl fr.nxs)
 | .loop c, A, h => by
   simp only [vc]
   split
   · have key : ∀ n A, NX A.bl A.nx → NiceS A (fun K => unroll (vc P Γ inl ann c) n K A) := by
      intro n
      induction n with
      | zero => intro A _; exact NiceS.no fun K h => h
      | succ n ih =>
        intro A h
        exact NiceS.bind (vc_nice hinl ann c A h) (F := fun K e A' => match e with
         | .normal => unroll (vc P Γ inl ann c) n K A'
         | e => K e A') fun e A1 fr => by
           cases e with
           | normal => exact ih A1 fr.nxs
           | _ => exact NiceS.one _ (Fr.refl fr.nxs)
     exact key 40 A h
   · rename_i N0 _
     generalize N0 A = N
     intro K hK
     obtain ⟨x0, i0, m0, hall0⟩ := hK
     have hall := forX_all hall0
     have hnxH : ∀ x : N.X, NX (headS A N x).bl (headS A N x).nx := by
      intro x i hi
      have hi' : A.nx + N.gr.length ≤ i := hi
      obtain ⟨j, rfl⟩ := Nat.exists_eq_add_of_le (show A.nx ≤ i by omega)
      show headB A N x (A.nx + j) = none
      rw [headB_ge]
      cases hgb : grB x N.gr j with
      | none => rfl
      | some C => have := grB_dom.1 (by rw [hgb]; simp : grB x N.gr j ≠ none); omega
     have each : ∀ x, N.inv x → ∃ S : Exit → AS → Prop, (∃ e A', S e A') ∧ (∀ e A', S e A' → (match e with
      | .normal => needB (wrote A.nx A'.wl (N.ids A)) (∃ x', N.inv x' ∧ N.mu x' < N.mu x ∧ meets false A A' N x')
      | e => K e { A' with wl := N.ids A ++ A'.wl ++ A.wl }) ∧ Fr (headS A N x) A') ∧ ∀ K', (∀ e A', S e A' → K' e A') → vc P Γ inl ann c K' (headS A N x) :=
      fun x hx => vc_nice hinl ann c (headS A N x) (hnxH x) _ (hall x hx)
     have fr : ∀ (x : N.X) (e : Exit) (A' : AS), N.inv x → Fr (headS A N x) A' → Fr A { A' with wl := N.ids A ++ A'.wl ++ A.wl } := by
      intro x e A' _ f
      have dom : ∀ {j B}, A.bl j = some B → j < A.nx := fun {j B} hB => by
       rcases Nat.lt_or_ge j A.nx with h' | h'
       · exact h'
       · rw [h j h'] at hB; cases hB
      refine ⟨f.nxs, Nat.le_trans (Nat.le_add_right _ _) f.nx, fun j hj => by simp [hj], fun j B hB hj => ?_, fun j hj h0 => f.new j (show j < A.nx + N.gr.length by omega) ?_⟩
      · simp only [List.mem_append, not_or] at hj
        have hjl := dom hB
        refine f.keep j B ?_ hj.1.2
        have hd : headB A N x j ≠ none := (headB_dom hjl).1 (by rw [hB]; simp)
        show headB A N x j = some B
        cases hC : headB A N x j with
        | none => exact absurd hC hd
        | some C =>
          obtain ⟨B0, b1, _, _, _, _, b6⟩ := headB_spec hjl hC
          rw [hB] at b1
          obtain rfl : B = B0 := by simpa using b1
          have hn := hj.1.1
          unfold Ann.ids at hn
          simp only [List.mem_append, not_or] at hn
          rcases b6 with ⟨g, h1, _⟩ | ⟨_, g, h1, _⟩ | ⟨_, _, _, h3⟩
          · exact absurd (List.mem_map.2 ⟨_, h1, rfl⟩) hn.1.1
          · exact absurd (List.mem_map.2 ⟨_, h1, rfl⟩) hn.1.2
          · rw [h3 hn.2]
      · cases hC : headB A N x j with
        | none => exact hC
        | some C => exact absurd h0 ((headB_dom hj).2 (by rw [hC]; simp))
     refine ⟨fun e A'' => ∃ (x : N.X) (S : Exit → AS → Prop) (e1 : Exit) (A' : AS), N.inv x ∧ ((∀ e A', S e A' → (match e with
      | .normal => needB (wrote A.nx A'.wl (N.ids A)) (∃ x', N.inv x' ∧ N.mu x' < N.mu x ∧ meets false A A' N x')
      | e => K e { A' with wl := N.ids A ++ A'.wl ++ A.wl }) ∧ Fr (headS A N x) A') ∧ ∀ K', (∀ e A', S e A' → K' e A') → vc P Γ inl ann c K' (headS A N x)) ∧ S e1 A' ∧ e1 ≠ .normal ∧ e = e1 ∧ A'' = { A' with wl := N.ids A ++ A'.wl ++ A.wl }, ?_, ?_, ?_⟩
     · have key : ∀ m (x : N.X), N.mu x < m → N.inv x → ∃ (e : Exit) (A'' : AS) (x : N.X) (S : Exit → AS → Prop) (e1 : Exit) (A' : AS), N.inv x ∧ ((∀ e A', S e A' → (match e with
        | .normal => needB (wrote A.nx A'.wl (N.ids A)) (∃ x', N.inv x' ∧ N.mu x' < N.mu x ∧ meets false A A' N x')
        | e => K e { A' with wl := N.ids A ++ A'.wl ++ A.wl }) ∧ Fr (headS A N x) A') ∧ ∀ K', (∀ e A', S e A' → K' e A') → vc P Γ inl ann c K' (headS A N x)) ∧ S e1 A' ∧ e1 ≠ .normal ∧ e = e1 ∧ A'' = ({ A' with wl := N.ids A ++ A'.wl ++ A.wl } : AS) := by
        intro m
        induction m with
        | zero => intro x hm; omega
        | succ m ih =>
          intro x hm hx
          obtain ⟨S, ⟨e, A', hs⟩, k1, k2⟩ := each x hx
          by_cases he : e = .normal
          · subst he
            obtain ⟨hk, _⟩ := k1 _ _ hs
            obtain ⟨_, x', g1, g2, _⟩ := needB_iff.1 hk
            exact ih x' (by omega) g1
          · exact ⟨e, _, x, S, e, A', hx, ⟨k1, k2⟩, hs, he, rfl, rfl⟩
       exact key _ x0 (Nat.lt_succ_self _) i0
     · rintro e A'' ⟨x, S, e1, A', hx, ⟨k1, k2⟩, hs, he, rfl, rfl⟩
       obtain ⟨hk, f⟩ := k1 _ _ hs
       refine ⟨?_, fr x e A' hx f⟩
       cases e with
       | normal => exact absurd rfl he
       | _ => exact hk
     · intro K' hK'
       refine ⟨x0, i0, m0, forX_mk hall0 fun x hx => ?_⟩
       obtain ⟨S, _, k1, k2⟩ := each x hx
       refine k2 _ fun e A' hs => ?_
       obtain ⟨hk, f⟩ := k1 _ _ hs
       cases e with
       | normal => exact hk
       | _ => exact hK' _ _ ⟨x, S, _, A', hx, ⟨k1, k2⟩, hs, by simp, rfl, rfl⟩
 | .region rid ops draw, A, h => by
   simp only [vc]
   cases draw with
   | true =>
     simp only [cond_true]
     cases hasBig Γ A ops.toList with
     | true =>
       simp only [cond_true]
       exact ((opsM_nice hinl (List.range ops.size) A _ h).toS (g := endG) fun A1 f => endG_frame f).need _
     | false =>
       simp only [cond_false]
       intro K hK
       obtain ⟨A', trs, h1, h2, h3, h4, h5, h6⟩ := opsD_det ops.toList 0 A [] hK
       obtain ⟨hb, h1⟩ := needB_iff.1 h1
       refine ⟨fun (e : Exit) (A'' : AS) => e = .normal ∧ A'' = { endG A' with nx := A.nx + ops.size, wl := foots trs ++ A.wl }, ⟨_, _, rfl, rfl⟩, ?_, fun K' hK' => h2 _ (needB_iff.2 ⟨hb, hK' _ _ ⟨rfl, rfl⟩⟩)⟩
       rintro e A'' ⟨rfl, rfl⟩
       refine ⟨h1, ⟨fun j hj => h6 j (.inr (by simpa using hj)) (h j (by have : A.nx + ops.size ≤ j := hj; omega)), by show A.nx ≤ A.nx + ops.size; omega, fun j hj => by simp [hj], fun j B hB hj => ?_, fun j hj h0 => h6 j (.inl (by omega)) h0⟩⟩
       simp only [List.mem_append, not_or] at hj
       exact h5 j B hB hj.1
   | false =>
     simp only [cond_false]
     exact (opsU_nice hinl ops.toList A h).toS (g := endG) fun A1 f => endG_frame f
 | .rangeFunc .., A, h => NiceS.no fun K h => h
 | .goto l, A, h => NiceS.no fun K h => h
 | .refuse s, A, h => NiceS.no fun K h => h
end
section
variable {P : Program} {W0 : World}
def MCtrOK (P : Program) (W0 : World) (f : FuncId) (k : MCtr) : Prop :=
 ∀ (bl : Nat → Option Blk) (β : Nat → Loc) (w : World) (nx : Nat) (args : List SV) (C : RC), BC W0 bl β w → NX bl nx → (∀ s ∈ args, Live bl s) → k bl nx args = some C → C.pre = true →
  Calls P f (SV.concs β args).toArray w fun e w' => ∃ x, C.spec x ∧ ∃ β', e = .returned ((C.out x).conc β') ∧ BC W0 (addB bl nx (C.nw x)) β' w' ∧ (∀ i, bl i ≠ none → β' i = β i) ∧ Live (addB bl nx (C.nw x)) (C.out x)
def resOf (tmps : Array Value) : ResultVar → Sem Value
 | .tmp t => pure (tmps.getD t undef)
 | .cell x t => do loadVar t (← asAddr (tmps.getD x undef))
theorem results_eq (fn : Func) (tmps : Array Value) : results fn tmps = (do let vs ← fn.results.mapM (resOf tmps); pure (if h : vs.size = 1 then vs[0] else .tuple vs)) := by
 unfold results
 congr 2
theorem resS_sound {β : Nat → Loc} {A : AS} {a : Act} {w : World} (hs : Is W0 A β a w) : ∀ (l : List ResultVar) (b : Bool) (r : List SV), resS P A l = some (b, r) → b = true →
 (l.mapM (resOf a.tmps)).run P w = .ok (SV.concs β r) w ∧ ∀ s ∈ r, Live A.bl s
 | [], b, r, h, hb => by
   simp only [resS, Option.some.injEq, Prod.mk.injEq] at h
   obtain ⟨rfl, rfl⟩ := h
   simp [SV.concs]
 | .tmp t :: l, b, r, h, hb => by
   simp only [resS] at h
   split at h
   · rename_i s b' r' ht hr
     simp only [Option.some.injEq, Prod.mk.injEq] at h
     obtain ⟨rfl, rfl⟩ := h
     obtain ⟨h1, h2⟩ := resS_sound hs l _ r' hr hb
     obtain ⟨k1, k2⟩ := hs.fr.v t s ht
     refine ⟨?_, fun x hx => ?_⟩
     · simp only [List.mapM_cons, Sem.run_bind, resOf, Sem.run_pure, Result.andThen_ok, h1, k1, SV.concs]
     · simp only [List.mem_cons] at hx
       rcases hx with rfl | hx
       · exact k2
       · exact h2 x hx
   · cases h
 | .cell x t :: l, b, r, h, hb => by
   simp only [resS] at h
   split at h
   · rename_i s b' r' ht hr
     split at h
     · rename_i E hE
       simp only [Option.some.injEq, Prod.mk.injEq] at h
       obtain ⟨h0, rfl⟩ := h
       rw [← h0] at hb
       simp only [Bool.and_eq_true] at hb
       obtain ⟨h1, h2⟩ := resS_sound hs l _ r' hr hb.2
       obtain ⟨k1, k2⟩ := hs.fr.v x s ht
       obtain ⟨ad, l1, l2, l3, l4, l5⟩ := loadS_sound (P := P) hs.bc hE hb.1
       refine ⟨?_, fun x hx => ?_⟩
       · simp only [List.mapM_cons, Sem.run_bind, resOf, k1, l1, asAddr, Sem.run_pure, Result.andThen_ok, l2, h1, SV.concs]
       · simp only [List.mem_cons] at hx
         rcases hx with rfl | hx
         · exact l3
         · exact h2 x hx
     · cases h
   · cases h
theorem results_sound {β : Nat → Loc} {A : AS} {a : Act} {w : World} (hs : Is W0 A β a w) {fn : Func} {b : Bool} {r : List SV} (h : resS P A fn.results.toList = some (b, r)) (hb : b = true) :
 (results fn a.tmps).run P w = .ok ((one1 r).conc β) w ∧ Live A.bl (one1 r) := by
 obtain ⟨h1, h2⟩ := resS_sound (P := P) hs _ b r h hb
 refine ⟨?_, ?_⟩
 · rw [results_eq, Array.mapM_eq_mapM_toList]
   simp only [Sem.run_bind, Sem.run_map, h1, Result.andThen_ok, Sem.run_pure]
   congr 1
   cases r with
   | nil => simp [SV.concs, one1, SV.conc]
   | cons s l =>
     cases l with
     | nil => simp [SV.concs, one1]
     | cons s' l => simp [SV.concs, one1, SV.conc]
 · cases r with
   | nil => intro i hi; simp [one1, SV.ids, SV.idss] at hi
   | cons s l =>
     cases l with
     | nil => exact h2 s (by simp)
     | cons s' l =>
       intro i hi
       simp only [one1, SV.ids] at hi
       obtain ⟨x, hx, hi⟩ := SV.mem_idss.1 hi
       exact h2 x hx i hi
theorem enter_fr (β : Nat → Loc) (args : List SV) (nt : Nat) (bl : Nat → Option Blk) (nx : Nat) (wl : List Nat) (hl : ∀ s ∈ args, Live bl s) :
 FR β (enterS args nt bl nx wl) { tmps := (SV.concs β args).toArray ++ Array.replicate (nt - (SV.concs β args).toArray.size) undef, defers := [] } := by
 have hlen : (SV.concs β args).length = args.length := by rw [SV.concs_eq]; simp
 refine ⟨rfl, ?_, ?_, ?_, ?_⟩
 · simp [enterS, hlen]; omega
 · intro t s ht
   simp only [enterS] at ht
   split at ht
   · rename_i s' hs
     simp only [TV.v.injEq] at ht; subst ht
     have hlt : t < args.length := by
      rcases Nat.lt_or_ge t args.length with h | h
      · exact h
      · rw [List.getElem?_eq_none h] at hs; cases hs
     refine ⟨?_, hl _ (List.mem_of_getElem? hs)⟩
     rw [Array.getD_eq_getD_getElem?, Array.getElem?_append_left (by simp [hlen]; exact hlt)]
     simp [SV.concs_eq, hs]
   · rename_i hs
     cases hb : Nat.blt t nt with
     | false => rw [hb] at ht; simp at ht
     | true =>
       rw [hb] at ht
       simp only [cond_true, TV.v.injEq] at ht; subst ht
       have hge : args.length ≤ t := by
        rcases Nat.lt_or_ge t args.length with h | h
        · rw [List.getElem?_eq_getElem h] at hs; cases hs
        · exact h
       have hlt : t < nt := by simpa [Nat.blt_eq] using hb
       refine ⟨?_, fun i hi => by simp [SV.ids] at hi⟩
       rw [Array.getD_eq_getD_getElem?, Array.getElem?_append_right (by simp [hlen]; exact hge)]
       have hz : t - (SV.concs β args).toArray.size < nt - (SV.concs β args).toArray.size := by simp [hlen]; omega
       rw [Array.getElem?_replicate, if_pos hz]
       rfl
 · intro t u b s ht
   simp only [enterS] at ht
   split at ht
   · cases ht
   · cases hb : Nat.blt t nt <;> rw [hb] at ht <;> simp at ht
 · intro t u b s ht
   simp only [enterS] at ht
   split at ht
   · cases ht
   · cases hb : Nat.blt t nt <;> rw [hb] at ht <;> simp at ht
structure Hyp (P : Program) (W0 : World) (ok : FuncId → Bool) (Γ : FuncId → Option Ctr) (Γm : FuncId → Option MCtr) : Prop where
 gam : GamOK P W0 Γ
 mem : ∀ f k, Γm f = some k → MCtrOK P W0 f k
 ok : ∀ f, ok f = true → Callable P f
 mixed : P.follows .mixedOrders = true
theorem addB_spec {bl : Nat → Option Blk} {nx : Nat} (hnx : NX bl nx) (l : List Blk) : NX (addB bl nx l) (nx + l.length) ∧ (∀ i, i < nx → addB bl nx l i = bl i) ∧ ∀ i B, bl i = some B → addB bl nx l i = some B := by
 have a1 : ∀ i, i < nx → addB bl nx l i = bl i := fun i hi => by unfold addB; rw [blt_iff, decide_eq_true hi]; rfl
 refine ⟨fun i hi => ?_, a1, fun i B hB => ?_⟩
 · unfold addB
   rw [blt_iff, decide_eq_false (by omega)]
   simp only [cond_false]
   exact List.getElem?_eq_none (by omega)
 · rw [a1 i (by
    rcases Nat.lt_or_ge i nx with h | h
    · exact h
    · rw [hnx i h] at hB; cases hB)]
   exact hB
theorem inlN_nice (ok : FuncId → Bool) (Γ : FuncId → Option Ctr) (Γm : FuncId → Option MCtr) (ann : FuncId → Nat → Option (AS → Ann)) : ∀ n, InlNice (inlN P ok Γ Γm ann n)
 | 0 => by intro f args bl nx wl hnx K h; exact h.elim
 | n + 1 => by
   intro f args bl nx wl hnx K h
   simp only [inlN] at h ⊢
   cases hok : ok f with
   | false => rw [hok] at h; exact h.elim
   | true =>
     rw [hok] at h
     simp only [cond_true] at h ⊢
     split at h
     · rename_i k hk
       split at h
       · rename_i C hC
         obtain ⟨hp, h⟩ := needB_iff.1 h
         obtain ⟨x0, hx0⟩ := C.ex hp
         refine ⟨fun r b m w => ∃ x, C.spec x ∧ r = C.out x ∧ b = addB bl nx (C.nw x) ∧ m = nx + (C.nw x).length ∧ w = wl, ⟨_, _, _, _, x0, hx0, rfl, rfl, rfl, rfl⟩, ?_, ?_⟩
         · rintro r b m w ⟨x, hx, rfl, rfl, rfl, rfl⟩
           obtain ⟨a1, a2, a3⟩ := addB_spec hnx (C.nw x)
           exact ⟨h x hx, a1, by omega, fun j B hB _ => a3 j B hB, fun j hj h0 => by rw [a2 j hj]; exact h0, fun _ h => h⟩
         · intro K' hK'
           try simp only [hk, hC]
           exact needB_iff.2 ⟨hp, fun x hx => hK' _ _ _ _ ⟨x, hx, rfl, rfl, rfl, rfl⟩⟩
       · exact h.elim
     · rename_i hk
       split at h
       · rename_i fn hfn
         split at h
         · rename_i c hc
           obtain ⟨S, ⟨e0, A0, h0⟩, h1, h2⟩ := vc_nice (P := P) (Γ := Γ) (inlN_nice ok Γ Γm ann n) (ann f) c (enterS args fn.ntmps bl nx wl) hnx _ h
           have fin : ∀ e A', S e A' → (e = .normal ∨ e = .ret) ∧ ∃ l, resS P A' fn.results.toList = some (true, l) ∧ K (one1 l) A'.bl A'.nx A'.wl := by
            intro e A' hs
            have hk := (h1 e A' hs).1
            have key : (match resS P A' fn.results.toList with
             | some (b, l) => needB b (K (one1 l) A'.bl A'.nx A'.wl)
             | none => False) → ∃ l, resS P A' fn.results.toList = some (true, l) ∧ K (one1 l) A'.bl A'.nx A'.wl := by
             intro hk
             split at hk
             · rename_i b l hr
               obtain ⟨hb, hk⟩ := needB_iff.1 hk
               subst hb
               exact ⟨l, hr, hk⟩
             · exact hk.elim
            cases e with
            | normal => exact ⟨.inl rfl, key hk⟩
            | ret => exact ⟨.inr rfl, key hk⟩
            | _ => exact hk.elim
           refine ⟨fun r b m w => ∃ e A' l, S e A' ∧ resS P A' fn.results.toList = some (true, l) ∧ r = one1 l ∧ b = A'.bl ∧ m = A'.nx ∧ w = A'.wl, ?_, ?_, ?_⟩
           · obtain ⟨_, l, hl, _⟩ := fin e0 A0 h0
             exact ⟨_, _, _, _, e0, A0, l, h0, hl, rfl, rfl, rfl, rfl⟩
           · rintro r b m w ⟨e, A', l, hs, hl, rfl, rfl, rfl, rfl⟩
             obtain ⟨_, l', hl', hk⟩ := fin e A' hs
             rw [hl] at hl'
             simp only [Option.some.injEq, Prod.mk.injEq, true_and] at hl'
             subst hl'
             have f := (h1 e A' hs).2
             exact ⟨hk, f.nxs, f.nx, f.keep, f.new, f.wl⟩
           · intro K' hK'
             try simp only [hk, hfn, hc]
             refine h2 _ fun e A' hs => ?_
             obtain ⟨he, l, hl, _⟩ := fin e A' hs
             have := hK' _ _ _ _ ⟨e, A', l, hs, hl, rfl, rfl, rfl, rfl⟩
             rcases he with rfl | rfl
             · simp only [hl]; exact needB_iff.2 ⟨rfl, this⟩
             · simp only [hl]; exact needB_iff.2 ⟨rfl, this⟩
         · exact h.elim
       · exact h.elim
theorem inlN_sound {ok : FuncId → Bool} {Γ : FuncId → Option Ctr} {Γm : FuncId → Option MCtr} (H : Hyp P W0 ok Γ Γm) (ann : FuncId → Nat → Option (AS → Ann)) : ∀ n, InlOK P W0 (inlN P ok Γ Γm ann n)
 | 0 => by intro f args bl nx wl K β w h; exact h.elim
 | n + 1 => by
   intro f args bl nx wl K β w h hbc hnx hl
   simp only [inlN] at h
   cases hok : ok f with
   | false => rw [hok] at h; exact h.elim
   | true =>
     rw [hok] at h
     simp only [cond_true] at h
     refine ⟨H.ok f hok, ?_⟩
     split at h
     · rename_i k hk
       split at h
       · rename_i C hC
         obtain ⟨hn, h⟩ := needB_iff.1 h
         refine Calls.mono (H.mem f k hk bl β w nx args C hbc hnx hl hC hn) ?_
         rintro e w' ⟨x, hx, β', rfl, g1, g2, g3⟩
         have a1 : ∀ i, i < nx → addB bl nx (C.nw x) i = bl i := fun i hi => by unfold addB; rw [blt_iff, decide_eq_true hi]; rfl
         have a2 : ∀ i, nx + (C.nw x).length ≤ i → addB bl nx (C.nw x) i = none := fun i hi => by
          unfold addB
          rw [blt_iff]
          have : ¬ i < nx := by omega
          simp only [this, decide_false, cond_false]
          exact List.getElem?_eq_none (by omega)
         refine ⟨β', C.out x, _, _, _, rfl, h x hx, g1, a2, g3, ⟨fun i B hB => ⟨B, ?_, rfl, ⟨rfl, rfl⟩, .inl rfl, fun _ => rfl⟩, g2, fun i hi h0 => by rw [a1 i hi]; exact h0⟩, fun i hi => hi, by omega⟩
         rw [a1 i (by
          rcases Nat.lt_or_ge i nx with h | h
          · exact h
          · rw [hnx i h] at hB; cases hB)]
         exact hB
       · exact h.elim
     · split at h
       · rename_i fn hfn
         split at h
         · rename_i c hc
           have hf : P.funcs[f]? = some fn := by simpa using hfn
           refine calls_of_wp hf hc ?_
           have hs : Is W0 (enterS args fn.ntmps bl nx wl) β { tmps := (SV.concs β args).toArray ++ Array.replicate (fn.ntmps - (SV.concs β args).toArray.size) undef, defers := [] } w :=
            ⟨enter_fr β args fn.ntmps bl nx wl hl, hbc, hnx⟩
           refine Code.wp_mono ?_ (vc_sound H.gam H.mixed (inlN_sound H ann n) (inlN_nice ok Γ Γm ann n) (ann f) c _ _ β _ w h hs)
           rintro e a' w' ⟨A', β', hk, hs', ht⟩
           have fin : (match resS P A' fn.results.toList with
            | some (b, l) => needB b (K (one1 l) A'.bl A'.nx A'.wl)
            | none => False) → a'.defers = [] ∧ ∃ v, (results fn a'.tmps).run P w' = .ok v w' ∧ ∃ β'' r bl' nx' wl', Ending.returned v = .returned (r.conc β'') ∧ K r bl' nx' wl' ∧ BC W0 bl' β'' w' ∧ NX bl' nx' ∧ Live bl' r ∧ Tr bl nx wl' β bl' β'' ∧ (∀ i ∈ wl, i ∈ wl') ∧ nx ≤ nx' := by
            intro hk
            split at hk
            · rename_i b l hr
              obtain ⟨hb, hk⟩ := needB_iff.1 hk
              obtain ⟨r1, r2⟩ := results_sound hs' hr hb
              exact ⟨hs'.fr.defers, _, r1, β', one1 l, A'.bl, A'.nx, A'.wl, rfl, hk, hs'.bc, hs'.nx, r2, ht.tr, ht.wl, ht.nx⟩
            · exact hk.elim
           cases e with
           | normal => exact fin hk
           | ret => exact fin hk
           | exit id => exact hk.elim
           | goto l => exact hk.elim
           | panic ch => exact hk.elim
           | outgrown => exact hk.elim
         · exact h.elim
       · exact h.elim
def lookG : List (FuncId × Ctr) → FuncId → Option Ctr
 | [], _ => none
 | (g, k) :: r, f => bif Nat.beq f g then some k else lookG r f
def lookM : List (FuncId × MCtr) → FuncId → Option MCtr
 | [], _ => none
 | (g, k) :: r, f => bif Nat.beq f g then some k else lookM r f
def oneOf (l : List FuncId) (f : FuncId) : Bool := l.any (Nat.beq f)
theorem lookG_mem : ∀ {l : List (FuncId × Ctr)} {f : FuncId} {k : Ctr}, lookG l f = some k → (f, k) ∈ l
 | [], f, k, h => by cases h
 | (g, c) :: r, f, k, h => by
   simp only [lookG] at h
   cases hb : Nat.beq f g with
   | true =>
     rw [hb] at h
     simp only [cond_true, Option.some.injEq] at h
     subst h
     rw [Nat.eq_of_beq_eq_true hb]; simp
   | false => rw [hb] at h; exact List.mem_cons_of_mem _ (lookG_mem h)
theorem lookM_mem : ∀ {l : List (FuncId × MCtr)} {f : FuncId} {k : MCtr}, lookM l f = some k → (f, k) ∈ l
 | [], f, k, h => by cases h
 | (g, c) :: r, f, k, h => by
   simp only [lookM] at h
   cases hb : Nat.beq f g with
   | true =>
     rw [hb] at h
     simp only [cond_true, Option.some.injEq] at h
     subst h
     rw [Nat.eq_of_beq_eq_true hb]; simp
   | false => rw [hb] at h; exact List.mem_cons_of_mem _ (lookM_mem h)
theorem hyp_of {gam : List (FuncId × Ctr)} {gm : List (FuncId × MCtr)} {oks : List FuncId} (hG : ∀ p ∈ gam, CtrOK P W0 p.1 p.2 ∧ Callable P p.1) (hM : ∀ p ∈ gm, MCtrOK P W0 p.1 p.2) (hok : ∀ f ∈ oks, Callable P f) (hmx : P.follows .mixedOrders = true) :
 Hyp P W0 (oneOf oks) (lookG gam) (lookM gm) where
 gam := ⟨fun f k h => (hG _ (lookG_mem h)).1, fun f k h => (hG _ (lookG_mem h)).2⟩
 mem := fun f k h => hM _ (lookM_mem h)
 ok := fun f h => by
  unfold oneOf at h
  simp only [List.any_eq_true] at h
  obtain ⟨g, hg, hb⟩ := h
  rw [Nat.eq_of_beq_eq_true hb]; exact hok g hg
 mixed := hmx
theorem addB_nil {bl : Nat → Option Blk} {nx : Nat} (h : NX bl nx) : addB bl nx [] = bl := by
 funext i
 unfold addB
 rw [blt_iff]
 by_cases hi : i < nx
 · simp [hi]
 · simp [hi, h i (by omega)]
theorem good_pure {bl : Nat → Option Blk} {β : Nat → Loc} {w w' : World} {nx : Nat} {s : SV} (hbc : BC W0 bl β w) (hnx : NX bl nx) (hs : s.ids = []) (hb : Below w.heap.size w w') : BC W0 (addB bl nx []) β w' ∧ (∀ i, bl i ≠ none → β i = β i) ∧ Live (addB bl nx []) s := by
 rw [addB_nil hnx]
 exact ⟨hbc.step hb, fun _ _ => rfl, live_of_nil hs⟩
theorem bc_start (w : World) (β : Nat → Loc) : BC w (fun _ => none) β w where
 below := Below.refl _ _
 blk := fun _ _ h => by cases h
 own := fun _ _ h => by cases h
 old := fun _ _ h => by cases h
 inj := fun _ _ _ _ h => by cases h
 live := fun _ _ _ _ _ h => by cases h
def noLoc : Nat → Loc := fun _ => ⟨0, 0, 0, 0, false⟩
theorem run_pure {ok : FuncId → Bool} {Γ : FuncId → Option Ctr} {Γm : FuncId → Option MCtr} {w : World} (H : Hyp P w ok Γ Γm) (ann : FuncId → Nat → Option (AS → Ann)) (n : Nat) (f : FuncId) (args : List SV) (hargs : SV.idss args = []) (Q : SV → Prop)
 (h : inlN P ok Γ Γm ann n f args (fun _ => none) 0 [] fun r _ _ _ => r.ids = [] ∧ Q r) :
 Calls P f (SV.concs noLoc args).toArray w fun e w' => ∃ r, e = .returned (r.conc noLoc) ∧ r.ids = [] ∧ Q r ∧ Below w.heap.size w w' := by
 obtain ⟨_, h⟩ := inlN_sound H ann n f args _ 0 [] _ noLoc w h (bc_start w noLoc) (fun _ _ => rfl) (fun s hs i hi => by
  have : i ∈ SV.idss args := SV.mem_idss.2 ⟨s, hs, hi⟩
  rw [hargs] at this; cases this)
 refine Calls.mono h ?_
 rintro e w' ⟨β', r, bl', nx', wl', rfl, ⟨hi, hq⟩, hbc, _⟩
 exact ⟨r, by rw [SV.conc_congr r (β := noLoc) (β' := β') (fun i h => by rw [hi] at h; cases h)], hi, hq, hbc.below⟩
end
structure Cod (α : Type) where
 dec : SV → Option α
 enc : α → SV
 ok : ∀ s a, dec s = some a → s = enc a
 ids : ∀ a, (enc a).ids = []
def decI : SV → Option Int
 | .val (.int .i64 z) => some z
 | _ => none
def cI : Cod Int where
 dec := decI
 enc z := .val (.int .i64 z)
 ok s a h := by
  unfold decI at h
  split at h
  · simp at h; rw [h]
  · cases h
 ids _ := by simp [SV.ids]
def decB : SV → Option Bool
 | .val (.bool z) => some z
 | _ => none
def cB : Cod Bool where
 dec := decB
 enc z := .val (.bool z)
 ok s a h := by
  unfold decB at h
  split at h
  · simp at h; rw [h]
  · cases h
 ids _ := by simp [SV.ids]
def decS : SV → Option ByteArray
 | .val (.string z) => some z
 | _ => none
def cS : Cod ByteArray where
 dec := decS
 enc z := .val (.string z)
 ok s a h := by
  unfold decS at h
  split at h
  · simp at h; rw [h]
  · cases h
 ids _ := by simp [SV.ids]
def decR : SV → Option (ByteArray × ByteArray)
 | .agg [.val (.string a), .val (.string b)] => some (a, b)
 | _ => none
def cR : Cod (ByteArray × ByteArray) where
 dec := decR
 enc r := .agg [.val (.string r.1), .val (.string r.2)]
 ok s a h := by
  unfold decR at h
  split at h
  · simp at h; rw [← h]
  · cases h
 ids _ := by simp [SV.ids, SV.idss]
def dec2 : SV → Option (Int × Int)
 | .agg [.val (.int .i64 a), .val (.int .i64 b)] => some (a, b)
 | _ => none
def c22 : Cod (Int × Int) where
 dec := dec2
 enc r := .agg [.val (.int .i64 r.1), .val (.int .i64 r.2)]
 ok s a h := by
  unfold dec2 at h
  split at h
  · simp at h; rw [← h]
  · cases h
 ids _ := by simp [SV.ids, SV.idss]
def dec4 : SV → Option (Int × Int × Int × Int)
 | .agg [.val (.int .i64 a), .val (.int .i64 b), .val (.int .i64 c), .val (.int .i64 d)] => some (a, b, c, d)
 | _ => none
def c44 : Cod (Int × Int × Int × Int) where
 dec := dec4
 enc r := .agg [.val (.int .i64 r.1), .val (.int .i64 r.2.1), .val (.int .i64 r.2.2.1), .val (.int .i64 r.2.2.2)]
 ok s a h := by
  unfold dec4 at h
  split at h
  · simp at h; rw [← h]
  · cases h
 ids _ := by simp [SV.ids, SV.idss]
structure D7 where
 d0 : Int × Int
 d1 : Int × Int
 d2 : Int × Int
 d3 : Int × Int
 d4 : Int × Int
 d5 : Int × Int
 d6 : Int × Int
def mk7 (a0 b0 a1 b1 a2 b2 a3 b3 a4 b4 a5 b5 a6 b6 : Int) : D7 := ⟨(a0, b0), (a1, b1), (a2, b2), (a3, b3), (a4, b4), (a5, b5), (a6, b6)⟩
def sv7 (d : D7) : List SV := [.val (.int .i64 d.d0.1), .val (.int .i64 d.d0.2), .val (.int .i64 d.d1.1), .val (.int .i64 d.d1.2), .val (.int .i64 d.d2.1), .val (.int .i64 d.d2.2), .val (.int .i64 d.d3.1), .val (.int .i64 d.d3.2), .val (.int .i64 d.d4.1), .val (.int .i64 d.d4.2), .val (.int .i64 d.d5.1), .val (.int .i64 d.d5.2), .val (.int .i64 d.d6.1), .val (.int .i64 d.d6.2)]
def dec7 : SV → Option D7
 | .agg [.val (.int .i64 a0), .val (.int .i64 b0), .val (.int .i64 a1), .val (.int .i64 b1), .val (.int .i64 a2), .val (.int .i64 b2), .val (.int .i64 a3), .val (.int .i64 b3), .val (.int .i64 a4), .val (.int .i64 b4), .val (.int .i64 a5), .val (.int .i64 b5), .val (.int .i64 a6), .val (.int .i64 b6)] => some (mk7 a0 b0 a1 b1 a2 b2 a3 b3 a4 b4 a5 b5 a6 b6)
 | _ => none
def c7 : Cod D7 where
 dec := dec7
 enc d := .agg (sv7 d)
 ok s a h := by
  unfold dec7 at h
  split at h
  · simp only [Option.some.injEq] at h; rw [← h]; rfl
  · cases h
 ids _ := by simp [SV.ids, SV.idss, sv7]
structure Un where
 d : D7
 f : ByteArray × ByteArray
 o : ByteArray × ByteArray
 k : Int
 s : Int
def decU : SV → Option Un
 | .agg [.val (.int .i64 a0), .val (.int .i64 b0), .val (.int .i64 a1), .val (.int .i64 b1), .val (.int .i64 a2), .val (.int .i64 b2), .val (.int .i64 a3), .val (.int .i64 b3), .val (.int .i64 a4), .val (.int .i64 b4), .val (.int .i64 a5), .val (.int .i64 b5), .val (.int .i64 a6), .val (.int .i64 b6), .val (.string f1), .val (.string f2), .val (.string o1), .val (.string o2), .val (.int .i64 k), .val (.int .i64 s)] =>
   some ⟨mk7 a0 b0 a1 b1 a2 b2 a3 b3 a4 b4 a5 b5 a6 b6, (f1, f2), (o1, o2), k, s⟩
 | _ => none
def svUl (u : Un) : List SV := [.val (.int .i64 u.d.d0.1), .val (.int .i64 u.d.d0.2), .val (.int .i64 u.d.d1.1), .val (.int .i64 u.d.d1.2), .val (.int .i64 u.d.d2.1), .val (.int .i64 u.d.d2.2), .val (.int .i64 u.d.d3.1), .val (.int .i64 u.d.d3.2), .val (.int .i64 u.d.d4.1), .val (.int .i64 u.d.d4.2), .val (.int .i64 u.d.d5.1), .val (.int .i64 u.d.d5.2), .val (.int .i64 u.d.d6.1), .val (.int .i64 u.d.d6.2), .val (.string u.f.1), .val (.string u.f.2), .val (.string u.o.1), .val (.string u.o.2), .val (.int .i64 u.k), .val (.int .i64 u.s)]
def cU : Cod Un where
 dec := decU
 enc u := .agg (svUl u)
 ok s a h := by
  unfold decU at h
  split at h
  · simp only [Option.some.injEq] at h; rw [← h]; rfl
  · cases h
 ids _ := by simp [SV.ids, SV.idss, svUl]
def decP {α β : Type} (A : Cod α) (B : Cod β) : SV → Option (α × β)
 | .tup [x, y] => match A.dec x, B.dec y with
   | some a, some b => some (a, b)
   | _, _ => none
 | _ => none
def cP {α β : Type} (A : Cod α) (B : Cod β) : Cod (α × β) where
 dec := decP A B
 enc r := .tup [A.enc r.1, B.enc r.2]
 ok s a h := by
  unfold decP at h
  split at h
  · split at h
    · rename_i x y a b ha hb
      simp only [Option.some.injEq] at h; rw [← h, A.ok _ _ ha, B.ok _ _ hb]
    · cases h
  · cases h
 ids r := by simp [SV.ids, SV.idss, A.ids, B.ids]
section
variable {α β γ δ ρ : Type}
def k0 (R : Cod ρ) (f : ρ) : Ctr := fun args => match args with
 | [] => some (true, R.enc f)
 | _ => none
def k1 (A : Cod α) (R : Cod ρ) (pre : α → Bool) (f : α → ρ) : Ctr := fun args => match args with
 | [x] => match A.dec x with
   | some a => some (pre a, R.enc (f a))
   | none => none
 | _ => none
def k2 (A : Cod α) (B : Cod β) (R : Cod ρ) (pre : α → β → Bool) (f : α → β → ρ) : Ctr := fun args => match args with
 | [x, y] => match A.dec x, B.dec y with
   | some a, some b => some (pre a b, R.enc (f a b))
   | _, _ => none
 | _ => none
def k3 (A : Cod α) (B : Cod β) (C : Cod γ) (R : Cod ρ) (pre : α → β → γ → Bool) (f : α → β → γ → ρ) : Ctr := fun args => match args with
 | [x, y, z] => match A.dec x, B.dec y, C.dec z with
   | some a, some b, some c => some (pre a b c, R.enc (f a b c))
   | _, _, _ => none
 | _ => none
variable {P : Program} {W0 : World} {F : FuncId}
def Yields (P : Program) (W0 : World) (F : FuncId) (args : List SV) (r : SV) : Prop := ∀ (β : Nat → Loc) (w : World), Below W0.heap.size W0 w → Calls P F (SV.concs β args).toArray w fun e w' => e = .returned (r.conc β) ∧ Below w.heap.size w w'
theorem k0_ok {R : Cod ρ} {f : ρ} (h : Yields P W0 F [] (R.enc f)) : CtrOK P W0 F (k0 R f) := by
 intro β w args b s hb hk hn
 unfold k0 at hk
 split at hk
 · simp only [Option.some.injEq, Prod.mk.injEq] at hk
   obtain ⟨rfl, rfl⟩ := hk
   exact ⟨R.ids _, h β w hb⟩
 · cases hk
theorem k1_ok {A : Cod α} {R : Cod ρ} {pre : α → Bool} {f : α → ρ} (h : ∀ a, pre a = true → Yields P W0 F [A.enc a] (R.enc (f a))) : CtrOK P W0 F (k1 A R pre f) := by
 intro β w args b s hb hk hn
 unfold k1 at hk
 split at hk
 · split at hk
   · rename_i x a ha
     simp only [Option.some.injEq, Prod.mk.injEq] at hk
     obtain ⟨rfl, rfl⟩ := hk
     rw [A.ok _ _ ha]
     exact ⟨R.ids _, h a hn β w hb⟩
   · cases hk
 · cases hk
theorem k2_ok {A : Cod α} {B : Cod β} {R : Cod ρ} {pre : α → β → Bool} {f : α → β → ρ} (h : ∀ a b, pre a b = true → Yields P W0 F [A.enc a, B.enc b] (R.enc (f a b))) : CtrOK P W0 F (k2 A B R pre f) := by
 intro β w args b s hb hk hn
 unfold k2 at hk
 split at hk
 · split at hk
   · rename_i x y a c ha hc
     simp only [Option.some.injEq, Prod.mk.injEq] at hk
     obtain ⟨rfl, rfl⟩ := hk
     rw [A.ok _ _ ha, B.ok _ _ hc]
     exact ⟨R.ids _, h a c hn β w hb⟩
   · cases hk
 · cases hk
theorem k3_ok {A : Cod α} {B : Cod β} {C : Cod γ} {R : Cod ρ} {pre : α → β → γ → Bool} {f : α → β → γ → ρ} (h : ∀ a b c, pre a b c = true → Yields P W0 F [A.enc a, B.enc b, C.enc c] (R.enc (f a b c))) : CtrOK P W0 F (k3 A B C R pre f) := by
 intro β w args b s hb hk hn
 unfold k3 at hk
 split at hk
 · split at hk
   · rename_i x y z a c d ha hc hd
     simp only [Option.some.injEq, Prod.mk.injEq] at hk
     obtain ⟨rfl, rfl⟩ := hk
     rw [A.ok _ _ ha, B.ok _ _ hc, C.ok _ _ hd]
     exact ⟨R.ids _, h a c d hn β w hb⟩
   · cases hk
 · cases hk
theorem yields_of_run {ok : FuncId → Bool} {Γ : FuncId → Option Ctr} {Γm : FuncId → Option MCtr} (H : ∀ W, Below W0.heap.size W0 W → Hyp P W ok Γ Γm) {ann : FuncId → Nat → Option (AS → Ann)} {n : Nat} {args : List SV} {r : SV} (hargs : SV.idss args = []) (hr : r.ids = [])
 (h : inlN P ok Γ Γm ann n F args (fun _ => none) 0 [] fun s _ _ _ => s = r) : Yields P W0 F args r := by
 intro β w hb
 obtain ⟨_, hc⟩ := inlN_sound (H w hb) ann n F args (fun _ => none) 0 [] _ β w h (bc_start w β) (fun _ _ => rfl) (fun s hs i hi => by
  have : i ∈ SV.idss args := SV.mem_idss.2 ⟨s, hs, hi⟩
  rw [hargs] at this; cases this)
 refine Calls.mono hc ?_
 rintro e w' ⟨β', s, bl', nx', wl', rfl, rfl, hbc, _⟩
 exact ⟨by rw [SV.conc_congr s (β := β) (β' := β') (fun i hi => by rw [hr] at hi; cases hi)], hbc.below⟩
end
end Go.Sy
