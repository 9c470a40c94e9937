/- Walks of package integer: products of absolute values. -/
import Derived.Shelf.RegionOpen
import Derived.Test.YtgeoidnleagloaaGreatDoorIF
import Derived.Test.YtgeoidnleagloaaGreatDoorPL
import Derived.Test.YtgeoidnleagloaaGreatDoorWL
set_option linter.unusedVariables false
set_option linter.unusedSimpArgs false
namespace Go.Proofs.YtgeoidnleagloaaGreatDoor
open Go.RowKit Yk
attribute [local go_sem] Oper.semAt_some

theorem rd_kept {α : Type} {enc : α → Value} {w w' : World} {v : Value} {l : List α} {row : Option Nat} (h : Rd enc w v l) (hg : w.grownBy w' row) (hr : ∀ r, row = some r → ∃ o : Obj, w.heap[r]? = some o ∧ o.isCells = false) : Rd enc w' v l := by
  rcases h with h | ⟨b, off, cap, rfl, h1, h2, h3, h4⟩
  · exact .inl h
  · exact .inr ⟨b, off, cap, rfl, Nat.lt_of_lt_of_le h1 hg.size, h2, h3, fun i x hx => cell_kept (h4 i x hx) hg hr⟩
/-- The product of what has come from the end. -/
def prodOf {m : List Nat} (x : Nat) (pre : List (Place m)) : Nat := (pre.map (·.1)).foldl (hornerStep 10000 x) 0
theorem prodOf_snoc {m : List Nat} (x : Nat) (pre : List (Place m)) (p : Place m) : prodOf x (pre ++ [p]) = prodOf x pre * 10000 + x * p.1.2 := by
  unfold prodOf; rw [List.map_append, List.foldl_append]; rfl
theorem bw_horner (x : Nat) (l : List Nat) (k : Nat) (hk : k ≤ l.length) : (bwTo l k).foldl (hornerStep 10000 x) 0 = x * val 10000 (l.drop (l.length - k)) := by
  induction k with
  | zero => rw [Nat.sub_zero, List.drop_length]; rfl
  | succ k ih =>
    rw [bwTo_succ, List.foldl_append, ih (by omega)]
    have e : l.drop (l.length - (k + 1)) = l.getD (l.length - 1 - k) 0 :: l.drop (l.length - k) := by
      have h1 : l.length - (k + 1) < l.length := by omega
      rw [List.drop_eq_getElem_cons h1, show l.length - (k + 1) + 1 = l.length - k by omega]
      congr 1
      simp [List.getD, List.getElem?_eq_getElem (show l.length - 1 - k < l.length by omega), show l.length - (k + 1) = l.length - 1 - k by omega]
    rw [e, val, List.foldl_cons, List.foldl_nil, hornerStep, Nat.mul_add, Nat.mul_assoc, Nat.mul_comm 10000]
    exact Nat.add_comm _ _

set_option maxRecDepth 100000 in
set_option maxHeartbeats 2000000 in
theorem numTimes_any (x y : Nat) (va vb : Value) (w : World) (ha : Rd encN w va (digs 10000 x)) (hb : Rd encN w vb (digs 10000 y)) (hx : (digs 10000 x).length ≤ 400) (hy : (digs 10000 y).length ≤ 400) (hfb : ∀ k, vb.ownBlock = some k → k < w.heap.size) :
    Calls Tryz.prog 116 #[va, vb] w fun e w' => ∃ v, e = .returned v ∧ Rd encN w' v (digs 10000 (x * y)) ∧ From w.heap.size v ∧ Below w.heap.size w w' := by
  obtain ⟨aa, ca, rfl, _⟩ := ha.open'
  obtain ⟨ab, cb, rfl, _⟩ := hb.open'
  have Ha := Lib.hid ha
  have Hb := Lib.hid hb
  obtain ⟨n, hn⟩ : ∃ n, (digs 10000 x).length = n := ⟨_, rfl⟩
  obtain ⟨m, hm⟩ : ∃ n, (digs 10000 y).length = n := ⟨_, rfl⟩
  have Hn := Lib.hid hn
  have Hm := Lib.hid hm
  rw [hn] at hx Ha ⊢
  rw [hm] at hy Hb hfb ⊢
  have Hfb := Lib.hid hfb
  clear hn hm ha hb hfb
  refine (callsIn_wide (n := 5)).1 ?_
  refine callsIn_of_wp_marks Tryz.func116 rfl trivial ?_ rfl
  simp only [Tryz.ntmps116, List.size_toArray, List.length_cons, List.length_nil, Nat.reduceAdd, Nat.reduceSub, Array.replicate_succ, Array.replicate_zero, List.push_toArray, List.append_toArray, List.nil_append, List.cons_append]
  gi_wp2_with (refine ⟨trivial, ?_⟩; gi_at_call 106; refine (callsIn_wide.2 (backward_any _ _ _ _)).mono ?_; rintro e w' ⟨rfl, rfl⟩)
  have hA0 : Blk (((w.alloc (.cells #[.slice aa n ca] 98)).alloc (.cells #[.slice none 0 0] 98)).alloc (.cells #[.slice ab m cb] 98)) w.heap.size #[.slice aa n ca] 98 := ((Blk.new w _ _).alloc _).alloc _
  have hO0 : Blk (((w.alloc (.cells #[.slice aa n ca] 98)).alloc (.cells #[.slice none 0 0] 98)).alloc (.cells #[.slice ab m cb] 98)) (w.heap.size + 1) #[.slice none 0 0] 98 := (Blk.newAt _ _ _ (by simp)).alloc _
  have hS0 : Blk (((w.alloc (.cells #[.slice aa n ca] 98)).alloc (.cells #[.slice none 0 0] 98)).alloc (.cells #[.slice ab m cb] 98)) (w.heap.size + 1 + 1) #[.slice ab m cb] 98 := Blk.newAt _ _ _ (by simp)
  have hB0 : Below w.heap.size w (((w.alloc (.cells #[.slice aa n ca] 98)).alloc (.cells #[.slice none 0 0] 98)).alloc (.cells #[.slice ab m cb] 98)) := (((Below.refl _ w).alloc (Nat.le_refl _) _).alloc (by simp) _).alloc (by simp; omega) _
  have hsz : w.heap.size + 1 + 1 + 1 = (((w.alloc (.cells #[.slice aa n ca] 98)).alloc (.cells #[.slice none 0 0] 98)).alloc (.cells #[.slice ab m cb] 98)).heap.size := by simp
  generalize (((w.alloc (.cells #[.slice aa n ca] 98)).alloc (.cells #[.slice none 0 0] 98)).alloc (.cells #[.slice ab m cb] 98)) = W0 at *
  refine wp_backward (by omega) (w.heap.size + 1 + 1) w.heap.size rfl (.slice ab m cb) (digs 10000 y) (by rw [Hm.out]; omega) hS0.lt (by omega) (hS0.cell rfl) (Hb.out.below hB0) Hfb.out rfl
    (fun pre W => (∃ v, Blk W w.heap.size #[.slice aa n ca] 98 ∧ Blk W (w.heap.size + 1) #[v] 98 ∧ Rd encN W v (digs 10000 (prodOf x pre)) ∧ From (w.heap.size + 3) v ∧ w.heap.size + 3 ≤ W.heap.size) ∧ Below w.heap.size w W)
    (fun _ _ _ => False)
    ?own ?ownx ?start (fun p t => ((t.setIfInBounds 10 (.int .i64 (p.1.1 : Int))).setIfInBounds 11 (.int .i64 (p.1.2 : Int))).setIfInBounds 7 (.int .i64 (p.1.2 : Int))) ?assign ?body ?done ?stop
  case own => exact OwnFrom.and (Own.from (fun s A B row hs hg hr => by obtain ⟨v, h1, h2, h3, h4, h5⟩ := hs; exact ⟨v, h1.kept hg hr, h2.kept hg hr, rd_kept h3 hg hr, h4, Nat.le_trans h5 hg.size⟩) _) (ownFrom_below (Nat.le_refl _) (by omega))
  case ownx => exact fun _ _ _ _ _ hs _ _ => hs
  case start => exact ⟨⟨_, hA0, hO0, .inl ⟨rfl, digs_zero 10000⟩, From.nil _, by omega⟩, hB0⟩
  case assign =>
    intro l x W K hK
    simp only [List.setIfInBounds_toArray, List.set_cons_succ, List.set_cons_zero] at hK
    gi_wp2
    exact hK
  case body =>
    rintro l pre p W ⟨⟨v, hA, hO, hr, hfr, hw3⟩, hB⟩ hlen
    simp only [List.setIfInBounds_toArray, List.set_cons_succ, List.set_cons_zero]
    rw [Hm.out] at hlen
    obtain ⟨F, hF⟩ : ∃ F, prodOf x pre = F := ⟨_, rfl⟩
    rw [hF] at hr
    have HF := Lib.hid hF
    have hpd : p.1.2 < 10000 := digs_lt (by decide) y _ (List.mem_of_getElem? p.2)
    have hlF : (digs 10000 F).length ≤ 820 := by
      have h1 := horner_le (B := 10000) (x := x) (by decide) (pre.map (·.1)) (by
        intro q hq
        obtain ⟨r, hr, rfl⟩ := List.mem_map.1 hq
        exact digs_lt (by decide) y _ (List.mem_of_getElem? r.2))
      have h2 : (pre.map (·.1)).foldl (hornerStep 10000 x) 0 = F := HF.out
      rw [h2, List.length_map] at h1
      have h3 := (digs_length_le (B := 10000) (by decide) x n).1 (by rw [Hn.out]; exact Nat.le_refl _)
      have h4 : F < 10000 ^ (n + pre.length) ∨ F = 0 := by
        by_cases hx0 : x = 0
        · subst hx0; right; simp at h1; exact h1
        · left
          rw [Nat.pow_add]
          have h5 : x * 10000 ^ pre.length ≤ 10000 ^ n * 10000 ^ pre.length := Nat.mul_le_mul_right _ (by omega)
          omega
      rcases h4 with h4 | h4
      · have h5 := (digs_length_le (B := 10000) (by decide) F (n + pre.length)).2 h4
        omega
      · rw [h4, digs_zero]; simp
    clear hF
    have hlp : (digs 10000 (x * p.1.2)).length ≤ 401 := by
      have h3 := (digs_length_le (B := 10000) (by decide) x n).1 (by rw [Hn.out]; exact Nat.le_refl _)
      have h4 : x * p.1.2 < 10000 ^ (n + 1) := by
        rw [Nat.pow_succ]
        exact Nat.mul_lt_mul'' h3 hpd
      have h5 := (digs_length_le (B := 10000) (by decide) (x * p.1.2) (n + 1)).2 h4
      omega
    have a0 : W.cell? ⟨w.heap.size, 0, none⟩ = some (.slice aa n ca) := hA.cell rfl
    have hbs := hB.size
    have hol := hO.lt
    obtain ⟨av, cv, rfl, _⟩ := hr.open'
    have o0 := hO.cell (i := 0) rfl
    have of0 := hO.free 0
    by_cases hz : F = 0
    · have hl0 : (digs 10000 F).length ≤ 0 := by rw [hz, digs_zero]; simp
      have Hz := Lib.hid hz; clear hz
      have hmx : Tryz.prog.follows .mixedOrders = true := by kernel_rfl
      gi_wp2
      have hO2 : Blk W.drew (w.heap.size + 1) #[.slice av (digs 10000 F).length cv] 98 := hO
      have hA2 : Blk W.drew w.heap.size #[.slice aa n ca] 98 := hA
      have hr1 : Rd encN W.drew (.slice av (digs 10000 F).length cv) (digs 10000 (F * 10000)) := by
        have h : Rd encN W.drew (.slice av (digs 10000 F).length cv) (digs 10000 F) := hr
        rw [show F * 10000 = F by have := Hz.out; omega]; exact h
      have hB2 : Below w.heap.size w W.drew := hB.drew
      have hk2 : KeepsOthers W W.drew := KeepsOthers.drew _
      have hK2 : KpB w.heap.size (w.heap.size + 1 + 1) W W.drew := KpB.drewN W 1
      have HL2 : Hid (w.heap.size + 3 ≤ W.drew.heap.size) := hw3
      have hlF2 : (digs 10000 (F * 10000)).length ≤ 821 := by rw [Hz.out, Nat.zero_mul, digs_zero]; simp
      have HA2 := Lib.hid hA2
      have HO2 := Lib.hid hO2
      have Hr1 := Lib.hid hr1
      have HB2 := Lib.hid hB2
      have Hk2 := Lib.hid hk2
      have HK2 := Lib.hid hK2
      have a2 := hA2.cell (i := 0) rfl
      have o2 := hO2.cell (i := 0) rfl
      have of2 := hO2.free 0
      clear hA2 hO2 hr1 hB2 hk2 hK2
      gi_region_with_o (first
        | (refine ⟨trivial, ?_⟩; gi_at_call 108; refine (CallsIn.inRound l (callsIn_wide.2 (numBy_any x p.1.2 hpd _ _ (Ha.out.below HB2.out) (by rw [Hn.out]; omega)))).mono ?_; rintro e w2 ⟨v2, rfl, hr2, hf2, hb2⟩; have o3 := (HO2.out.below hb2 HO2.out.lt).cell (i := 0) rfl; have of3 := (HO2.out.below hb2 HO2.out.lt).free 0)
        | (refine ⟨trivial, ?_⟩; gi_at_call 86; (refine (CallsIn.inRound l (callsIn_wide.2 (numPlus_any (F * 10000) (x * p.1.2) _ _ _ (Hr1.out.below hb2) hr2 (by omega) (by omega)))).mono ?_); rintro e w3 ⟨v3, rfl, hr3, hf3, hb3⟩; have o4 := ((HO2.out.below hb2 HO2.out.lt).below hb3 (by have := HO2.out.lt; have := hb2.size; omega)).cell (i := 0) rfl; have of4 := ((HO2.out.below hb2 HO2.out.lt).below hb3 (by have := HO2.out.lt; have := hb2.size; omega)).free 0; obtain ⟨a3, c3, rfl, _⟩ := hr3.open'))
      all_goals gi_wp2
      all_goals
        have hw13 := (HB2.out).size
        refine ⟨((Hk2.out.trans (keepsOthers_of_below hb2 (Nat.le_refl _))).trans (keepsOthers_of_below hb3 (Nat.le_refl _))).trans (KeepsOthers.setCell _ _ _) |>.from _, ?_, ⟨.slice a3 (digs 10000 (F * 10000 + x * p.1.2)).length c3, ?_, ?_, ?_, ?_, ?_⟩, ?_⟩
        · exact ((HK2.out.trans (KpB.of_below hb2 hw13 (by have := HL2.out; omega))).trans (KpB.of_below hb3 (Nat.le_trans hw13 hb2.size) (by have := HL2.out; have := hb2.size; omega))).trans (KpB.setCell _ (by simp) (by simp) _)
        · exact (((HA2.out.below hb2 HA2.out.lt).below hb3 (Nat.lt_of_lt_of_le HA2.out.lt hb2.size)).setOther (by simp) _)
        · exact ((HO2.out.below hb2 HO2.out.lt).below hb3 (Nat.lt_of_lt_of_le HO2.out.lt hb2.size)).set 0 _
        · rw [prodOf_snoc, HF.out]
          exact hr3.setCell (hf3.mono (by have := HL2.out; have := hb2.size; omega)) (show w.heap.size + 1 < w.heap.size + 3 by omega) _
        · exact hf3.mono (by have := HL2.out; have := hb2.size; omega)
        · simp [World.setCell]; have := HL2.out; have := hb2.size; have := hb3.size; omega
        · exact ((HB2.out.trans (hb2.mono hw13)).trans (hb3.mono (Nat.le_trans hw13 hb2.size))).setCell (by simp) _
    · have hl0 : 0 < (digs 10000 F).length := List.length_pos_iff.2 (fun e => hz ((digs_eq_nil (by decide)).1 e))
      have hmx : Tryz.prog.follows .mixedOrders = true := by kernel_rfl
      gi_wp2_with (gi_at_builtin; refine wpListIn_appRd (enc := encN) (e := 3) rfl _ _ 98 rfl (.int .i64 0) 8 Tryz.underlying98 infoInt rfl encN_one rfl (OwnL.lit1 W 0 rfl) rfl (hr.below ((Below.refl _ _).alloc (Nat.le_refl _) _)) (by simp; omega) (by decide) (by simp) ?_; intro v' w1 hown1 hB1 hk1; obtain ⟨gb, cp, rfl, hgb1, hgb2⟩ := hown1.cons_of; have hO1 := (hO.alloc (.cells #[.int .i64 0] 3)).below hB1 (by omega); have o1 := hO1.cell (i := 0) rfl; have of1 := hO1.free 0; have hA1 := (hA.alloc (.cells #[.int .i64 0] 3)).below hB1 (by have := hA.lt; omega); have a1 : w1.cell? ⟨w.heap.size, 0, none⟩ = some (.slice aa n ca) := hA1.cell rfl)
      have hsl : (.slice (some ⟨gb, 0, none⟩) ((digs 10000 F).length + 1) cp : Value) = .slice (some ⟨gb, 0, none⟩) ([0] ++ digs 10000 F).length cp := by simp
      have hdg : [0] ++ digs 10000 F = digs 10000 (F * 10000) := by
        have h := digs_shift (B := 10000) (d := 0) (n := F) (by decide) (by decide) (by omega)
        rw [Nat.zero_add, Nat.mul_comm] at h; rw [h]; rfl
      have hO2 : Blk (w1.setCell ⟨w.heap.size + 1, 0, none⟩ (.slice (some ⟨gb, 0, none⟩) ((digs 10000 F).length + 1) cp)).drew (w.heap.size + 1) #[.slice (some ⟨gb, 0, none⟩) ((digs 10000 F).length + 1) cp] 98 := hO1.set 0 _
      have hA2 : Blk (w1.setCell ⟨w.heap.size + 1, 0, none⟩ (.slice (some ⟨gb, 0, none⟩) ((digs 10000 F).length + 1) cp)).drew w.heap.size #[.slice aa n ca] 98 := hA1.setOther (by simp) _
      have hr1 : Rd encN (w1.setCell ⟨w.heap.size + 1, 0, none⟩ (.slice (some ⟨gb, 0, none⟩) ((digs 10000 F).length + 1) cp)).drew (.slice (some ⟨gb, 0, none⟩) ((digs 10000 F).length + 1) cp) (digs 10000 (F * 10000)) := by
        have h := hown1.rd.setCell (a := ⟨w.heap.size + 1, 0, none⟩) (C := w.heap.size + 3) (fun k hk => by cases hk; show w.heap.size + 3 ≤ gb; omega) (by simp) (.slice (some ⟨gb, 0, none⟩) ((digs 10000 F).length + 1) cp)
        rw [hdg] at h; exact h
      have hB2 : Below w.heap.size w (w1.setCell ⟨w.heap.size + 1, 0, none⟩ (.slice (some ⟨gb, 0, none⟩) ((digs 10000 F).length + 1) cp)).drew := (((hB.alloc hB.size _).trans (hB1.mono hbs)).setCell (by simp) _).drew
      have hk2 : KeepsOthers W (w1.setCell ⟨w.heap.size + 1, 0, none⟩ (.slice (some ⟨gb, 0, none⟩) ((digs 10000 F).length + 1) cp)).drew := (((KeepsOthers.alloc _ _).trans hk1).trans (KeepsOthers.setCell _ _ _)).trans (KeepsOthers.drew _)
      have hK2 : KpB w.heap.size (w.heap.size + 1 + 1) W (w1.setCell ⟨w.heap.size + 1, 0, none⟩ (.slice (some ⟨gb, 0, none⟩) ((digs 10000 F).length + 1) cp)).drew := ((KpB.of_below ((Below.refl _ W).alloc (Nat.le_refl _) _) hbs (by omega)).trans (KpB.of_below hB1 hbs (by omega))).trans ((KpB.setCell w1 (by simp) (by simp) _).trans (KpB.drewN _ 1))
      have HL2 : Hid (w.heap.size + 3 ≤ (w1.setCell ⟨w.heap.size + 1, 0, none⟩ (.slice (some ⟨gb, 0, none⟩) ((digs 10000 F).length + 1) cp)).drew.heap.size) := by
        show w.heap.size + 3 ≤ (w1.setCell ⟨w.heap.size + 1, 0, none⟩ (.slice (some ⟨gb, 0, none⟩) ((digs 10000 F).length + 1) cp)).drew.heap.size
        simp [World.setCell]; omega
      have hlF2 : (digs 10000 (F * 10000)).length ≤ 821 := by rw [← hdg]; simp; omega
      clear hsl hdg hO1 hA1 o1 of1 a1
      obtain ⟨W1, hW1⟩ : ∃ W1, (w1.setCell ⟨w.heap.size + 1, 0, none⟩ (.slice (some ⟨gb, 0, none⟩) ((digs 10000 F).length + 1) cp)).drew = W1 := ⟨_, rfl⟩
      have HA2 := Lib.hid hA2
      have HO2 := Lib.hid hO2
      have Hr1 := Lib.hid hr1
      have HB2 := Lib.hid hB2
      have Hk2 := Lib.hid hk2
      have HK2 := Lib.hid hK2
      have a2 := hA2.cell (i := 0) rfl
      have o2 := hO2.cell (i := 0) rfl
      have of2 := hO2.free 0
      clear hA2 hO2 hr1 hB2 hk2 hK2 hW1 W1
      gi_region_with_o (first
        | (refine ⟨trivial, ?_⟩; gi_at_call 108; refine (CallsIn.inRound l (callsIn_wide.2 (numBy_any x p.1.2 hpd _ _ (Ha.out.below HB2.out) (by rw [Hn.out]; omega)))).mono ?_; rintro e w2 ⟨v2, rfl, hr2, hf2, hb2⟩; have o3 := (HO2.out.below hb2 HO2.out.lt).cell (i := 0) rfl; have of3 := (HO2.out.below hb2 HO2.out.lt).free 0)
        | (refine ⟨trivial, ?_⟩; gi_at_call 86; (refine (CallsIn.inRound l (callsIn_wide.2 (numPlus_any (F * 10000) (x * p.1.2) _ _ _ (Hr1.out.below hb2) hr2 (by omega) (by omega)))).mono ?_); rintro e w3 ⟨v3, rfl, hr3, hf3, hb3⟩; have o4 := ((HO2.out.below hb2 HO2.out.lt).below hb3 (by have := HO2.out.lt; have := hb2.size; omega)).cell (i := 0) rfl; have of4 := ((HO2.out.below hb2 HO2.out.lt).below hb3 (by have := HO2.out.lt; have := hb2.size; omega)).free 0; obtain ⟨a3, c3, rfl, _⟩ := hr3.open'))
      all_goals gi_wp2
      all_goals
        have hw13 := (HB2.out).size
        refine ⟨((Hk2.out.trans (keepsOthers_of_below hb2 (Nat.le_refl _))).trans (keepsOthers_of_below hb3 (Nat.le_refl _))).trans (KeepsOthers.setCell _ _ _) |>.from _, ?_, ⟨.slice a3 (digs 10000 (F * 10000 + x * p.1.2)).length c3, ?_, ?_, ?_, ?_, ?_⟩, ?_⟩
        · exact ((HK2.out.trans (KpB.of_below hb2 hw13 (by have := HL2.out; omega))).trans (KpB.of_below hb3 (Nat.le_trans hw13 hb2.size) (by have := HL2.out; have := hb2.size; omega))).trans (KpB.setCell _ (by simp) (by simp) _)
        · exact (((HA2.out.below hb2 HA2.out.lt).below hb3 (Nat.lt_of_lt_of_le HA2.out.lt hb2.size)).setOther (by simp) _)
        · exact ((HO2.out.below hb2 HO2.out.lt).below hb3 (Nat.lt_of_lt_of_le HO2.out.lt hb2.size)).set 0 _
        · rw [prodOf_snoc, HF.out]
          exact hr3.setCell (hf3.mono (by have := HL2.out; have := hb2.size; omega)) (show w.heap.size + 1 < w.heap.size + 3 by omega) _
        · exact hf3.mono (by have := HL2.out; have := hb2.size; omega)
        · simp [World.setCell]; have := HL2.out; have := hb2.size; have := hb3.size; omega
        · exact ((HB2.out.trans (hb2.mono hw13)).trans (hb3.mono (Nat.le_trans hw13 hb2.size))).setCell (by simp) _
  case done =>
    rintro D ys W hD hys ⟨⟨v, hA, hO, hr, hfr, hw3⟩, hB⟩ hK
    have hxy : prodOf x ys = x * y := by
      unfold prodOf
      rw [hys, bw_horner x _ _ (Nat.le_refl _), Nat.sub_self, List.drop_zero, val_digs (by decide)]
    rw [hxy] at hr
    clear hxy hys
    have o0 : W.cell? ⟨w.heap.size + 1, 0, none⟩ = some v := hO.cell rfl
    obtain ⟨a9, c9, rfl, _⟩ := hr.open'
    gi_wp2
    refine ⟨by simp, .inl ⟨_, _, rfl, run_takeDeferred hK, ?_⟩⟩
    refine ⟨_, results_tmp rfl _ _ _, _, rfl, ?_, hfr.mono (by omega), hB.trans (belowK_b (w := w) (Nat.le_refl _) W D _ _ (by omega) hK rfl rfl)⟩
    exact rd_kept hr (grownBy_putObj' _ D (.deferred none)) (fun r e => by cases e; exact ⟨_, hK, rfl⟩)
  case stop =>
    rintro D c pre W _ _ h _
    exact h.elim
end Go.Proofs.YtgeoidnleagloaaGreatDoor
