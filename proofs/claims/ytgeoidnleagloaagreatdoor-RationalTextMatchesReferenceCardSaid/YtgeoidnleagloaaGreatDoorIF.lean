/- Walks of package integer: sums, differences and multiples of absolute values. -/
import Derived.Test.YtgeoidnleagloaaGreatDoorIE
set_option linter.unusedVariables false
set_option linter.unusedSimpArgs false
namespace Go.Proofs.YtgeoidnleagloaaGreatDoor
open Go.RowKit Yk

theorem at_same (l : List Nat) (v : Value) (i : Nat) (w : World) (hv : Rd encN w v l) (hi : i ≤ 1099511627776) :
    Calls Tryz.prog 114 #[v, .int .i64 i] w fun e w' => e = .returned (.int .i64 (l.getD i 0 : Nat)) ∧ w' = w :=
  (at_any l v i w hv hi).mono fun _ _ h => ⟨h.1, h.2.symm⟩

set_option maxRecDepth 100000 in
theorem plus1_any (l m : List Nat) (va vb : Value) (i : Nat) (a b : Addr) (w : World) (ha : w.cell? a = some va) (hb : w.cell? b = some vb) (hva : Rd encN w va l) (hvb : Rd encN w vb m) (hi : i ≤ 1099511627776) (hl : ∀ z ∈ l, z < 10000) (hm : ∀ z ∈ m, z < 10000) :
    Calls Tryz.prog 113 #[.int .i64 i, .pointer (some a), .pointer (some b)] w fun e w' => e = .returned (.int .i64 ((l.getD i 0 : Nat) + (m.getD i 0 : Nat) : Int)) ∧ Below w.heap.size w w' := by
  have Ha := Lib.hid (fun q => at_same l va i (w.drewN q) (hva.below ((Below.refl _ w).drewN q)) hi)
  have Hb := Lib.hid (fun q => at_same m vb i (w.drewN q) (hvb.below ((Below.refl _ w).drewN q)) hi)
  obtain ⟨aa, ca, rfl, _⟩ := hva.open'
  obtain ⟨ab, cb, rfl, _⟩ := hvb.open'
  have h1 : l.getD i 0 < 10000 := by
    by_cases h : i < l.length
    · rw [List.getD, List.getElem?_eq_getElem h]; exact hl _ (List.getElem_mem h)
    · rw [List.getD, List.getElem?_eq_none (by omega)]; decide
  have h2 : m.getD i 0 < 10000 := by
    by_cases h : i < m.length
    · rw [List.getD, List.getElem?_eq_getElem h]; exact hm _ (List.getElem_mem h)
    · rw [List.getD, List.getElem?_eq_none (by omega)]; decide
  obtain ⟨x, hx⟩ : ∃ x, l.getD i 0 = x := ⟨_, rfl⟩
  obtain ⟨y, hy⟩ : ∃ x, m.getD i 0 = x := ⟨_, rfl⟩
  rw [hx] at h1 Ha ⊢
  rw [hy] at h2 Hb ⊢
  clear hx hy hl hm hva hvb
  have hw1 : IntKind.i64.wrap ((x : Int) + (y : Int)) = (x : Int) + y := IntWalk.i64_in _ (by omega)
  go_enter Tryz.func113, Tryz.ntmps113
  go_wp2_with fail
  go_quiet ((first | (go_at_call 114; with_reducible exact Calls.quiet_of_same (Ha.out _)) | (go_at_call 114; with_reducible exact Calls.quiet_of_same (Hb.out _))))
  go_wp2
  go_ret
  exact ⟨rfl, (Below.refl _ _).drewN _⟩

set_option maxRecDepth 100000 in
theorem minus1_any (l m : List Nat) (va vb : Value) (i : Nat) (a b : Addr) (w : World) (ha : w.cell? a = some va) (hb : w.cell? b = some vb) (hva : Rd encN w va l) (hvb : Rd encN w vb m) (hi : i ≤ 1099511627776) (hl : ∀ z ∈ l, z < 10000) (hm : ∀ z ∈ m, z < 10000) :
    Calls Tryz.prog 115 #[.int .i64 i, .pointer (some a), .pointer (some b)] w fun e w' => e = .returned (.int .i64 ((l.getD i 0 : Nat) - (m.getD i 0 : Nat) : Int)) ∧ Below w.heap.size w w' := by
  have Ha := Lib.hid (fun q => at_same l va i (w.drewN q) (hva.below ((Below.refl _ w).drewN q)) hi)
  have Hb := Lib.hid (fun q => at_same m vb i (w.drewN q) (hvb.below ((Below.refl _ w).drewN q)) hi)
  obtain ⟨aa, ca, rfl, _⟩ := hva.open'
  obtain ⟨ab, cb, rfl, _⟩ := hvb.open'
  have h1 : l.getD i 0 < 10000 := by
    by_cases h : i < l.length
    · rw [List.getD, List.getElem?_eq_getElem h]; exact hl _ (List.getElem_mem h)
    · rw [List.getD, List.getElem?_eq_none (by omega)]; decide
  have h2 : m.getD i 0 < 10000 := by
    by_cases h : i < m.length
    · rw [List.getD, List.getElem?_eq_getElem h]; exact hm _ (List.getElem_mem h)
    · rw [List.getD, List.getElem?_eq_none (by omega)]; decide
  obtain ⟨x, hx⟩ : ∃ x, l.getD i 0 = x := ⟨_, rfl⟩
  obtain ⟨y, hy⟩ : ∃ x, m.getD i 0 = x := ⟨_, rfl⟩
  rw [hx] at h1 Ha ⊢
  rw [hy] at h2 Hb ⊢
  clear hx hy hl hm hva hvb
  have hw1 : IntKind.i64.wrap ((x : Int) - (y : Int)) = (x : Int) - y := IntWalk.i64_in _ (by omega)
  go_enter Tryz.func115, Tryz.ntmps115
  go_wp2_with fail
  go_quiet ((first | (go_at_call 114; with_reducible exact Calls.quiet_of_same (Ha.out _)) | (go_at_call 114; with_reducible exact Calls.quiet_of_same (Hb.out _))))
  go_wp2
  go_ret
  exact ⟨rfl, (Below.refl _ _).drewN _⟩

set_option maxRecDepth 100000 in
theorem by1_any (l : List Nat) (va : Value) (n i : Nat) (a b : Addr) (w : World) (ha : w.cell? a = some va) (hb : w.cell? b = some (.int .i64 (n : Int))) (hva : Rd encN w va l) (hi : i ≤ 1099511627776) (hl : ∀ z ∈ l, z < 10000) (hn : n < 10000) :
    Calls Tryz.prog 138 #[.int .i64 i, .pointer (some a), .pointer (some b)] w fun e w' => e = .returned (.int .i64 ((l.getD i 0 : Nat) * n : Int)) ∧ Below w.heap.size w w' := by
  have Ha := Lib.hid (fun q => at_same l va i (w.drewN q) (hva.below ((Below.refl _ w).drewN q)) hi)
  obtain ⟨aa, ca, rfl, _⟩ := hva.open'
  have h1 : l.getD i 0 < 10000 := by
    by_cases h : i < l.length
    · rw [List.getD, List.getElem?_eq_getElem h]; exact hl _ (List.getElem_mem h)
    · rw [List.getD, List.getElem?_eq_none (by omega)]; decide
  obtain ⟨x, hx⟩ : ∃ x, l.getD i 0 = x := ⟨_, rfl⟩
  rw [hx] at h1 Ha ⊢
  clear hx hl hva
  have h5 : x * n ≤ 9999 * 9999 := Nat.mul_le_mul (by omega) (by omega)
  have hw1 : IntKind.i64.wrap ((x : Int) * (n : Int)) = (x : Int) * n := IntWalk.i64_in _ (by rw [← Int.natCast_mul]; omega)
  go_enter Tryz.func138, Tryz.ntmps138
  go_wp2_with fail
  go_quiet ((go_at_call 114; with_reducible exact Calls.quiet_of_same (Ha.out _)))
  go_wp2
  go_ret
  exact ⟨rfl, (Below.refl _ _).drewN _⟩

theorem getD_digit {n : Nat} (i : Nat) : (digs 10000 n).getD i 0 < 10000 := digs_getD_lt (by decide) n i
theorem getD_out {l : List Nat} {i : Nat} (h : l.length ≤ i) : l.getD i 0 = 0 := by rw [List.getD, List.getElem?_eq_none h]; rfl
theorem digSum_digs {x k : Nat} (h : (digs 10000 x).length ≤ k) : digSum 10000 (fun i => ((digs 10000 x).getD i 0 : Int)) k = (x : Int) := by
  rw [digSum_getD, List.take_of_length_le h, val_digs (by decide)]

set_option maxRecDepth 100000 in
theorem numPlus_any (x y : Nat) (va vb : Value) (w : World) (ha : Rd encN w va (digs 10000 x)) (hb : Rd encN w vb (digs 10000 y)) (hx : (digs 10000 x).length ≤ 900) (hy : (digs 10000 y).length ≤ 900) :
    Calls Tryz.prog 86 #[va, vb] w fun e w' => ∃ v, e = .returned v ∧ Rd encN w' v (digs 10000 (x + y)) ∧ From w.heap.size v ∧ Below w.heap.size w w' := by
  obtain ⟨aa, ca, rfl, _⟩ := ha.open'
  obtain ⟨ab, cb, rfl, _⟩ := hb.open'
  have Ha := Lib.hid ha
  have Hb := Lib.hid hb
  obtain ⟨n, hn⟩ : ∃ n, (digs 10000 x).length = n := ⟨_, rfl⟩
  obtain ⟨m, hm⟩ : ∃ n, (digs 10000 y).length = n := ⟨_, rfl⟩
  have Hn := Lib.hid hn
  have Hm := Lib.hid hm
  rw [hn] at hx Ha ⊢
  rw [hm] at hy Hb ⊢
  clear hn hm ha hb
  have hmax : max (n : Int) (m : Int) = ((max n m : Nat) : Int) := by omega
  obtain ⟨N, hN⟩ : ∃ N, max n m = N := ⟨_, rfl⟩
  rw [hN] at hmax
  have hN1 : n ≤ N := by omega
  have hN2 : m ≤ N := by omega
  have hN3 : N ≤ 900 := by omega
  clear hN
  have hb1 : Blk ((w.alloc (.cells #[.slice aa n ca] 98)).alloc (.cells #[.slice ab m cb] 98)) w.heap.size #[.slice aa n ca] 98 := (Blk.new w _ _).alloc _
  have hb2 : Blk ((w.alloc (.cells #[.slice aa n ca] 98)).alloc (.cells #[.slice ab m cb] 98)) (w.heap.size + 1) #[.slice ab m cb] 98 := Blk.newAt _ _ _ (by simp)
  have hB0 : Below w.heap.size w ((w.alloc (.cells #[.slice aa n ca] 98)).alloc (.cells #[.slice ab m cb] 98)) := ((Below.refl _ w).alloc (Nat.le_refl _) _).alloc (by simp) _
  have Hfold := Lib.hid (fold_any 113 (.pointer (some ⟨w.heap.size, 0, none⟩)) (.pointer (some ⟨w.heap.size + 1, 0, none⟩)) (enters_of Tryz.func113 (by kernel_rfl) rfl) N (fun i => ((digs 10000 x).getD i 0 : Int) + ((digs 10000 y).getD i 0 : Int))
    ((w.alloc (.cells #[.slice aa n ca] 98)).alloc (.cells #[.slice ab m cb] 98)) (by omega)
    (fun i => by have h1 := getD_digit (n := x) i; have h2 := getD_digit (n := y) i; (try dsimp only); omega) (fun i hi => by (try dsimp only); rw [getD_out (by rw [Hn.out]; omega), getD_out (by rw [Hm.out]; omega)]; rfl)
    (by rw [digSum_add, digSum_digs (by rw [Hn.out]; exact hN1), digSum_digs (by rw [Hm.out]; exact hN2)]; omega)
    (fun i W hi hW => plus1_any _ _ _ _ i _ _ W ((hb1.below hW hb1.lt).cell rfl) ((hb2.below hW hb2.lt).cell rfl) ((Ha.out.below hB0).below hW) ((Hb.out.below hB0).below hW) (by omega) (digs_lt (by decide) x) (digs_lt (by decide) y)))
  have Hsum := Lib.hid (show digSum 10000 (fun i => ((digs 10000 x).getD i 0 : Int) + ((digs 10000 y).getD i 0 : Int)) N = ((x + y : Nat) : Int) by rw [digSum_add, digSum_digs (by rw [Hn.out]; exact hN1), digSum_digs (by rw [Hm.out]; exact hN2)]; omega)
  have HB0 := Lib.hid hB0
  clear hb1 hb2 hB0
  go_enter Tryz.func86, Tryz.ntmps86
  go_wp2_with (first | (go_at_call 112; refine (Hfold.out).mono ?_; rintro e w1 ⟨v, rfl, l, hr, hf, hd, hv, hbl⟩; have Hd := Lib.hid hd; have Hv := Lib.hid hv; clear hd hv) | (go_at_call 107; refine (trimmed_any l Hd.out _ _ hr).mono ?_; rintro e w2 ⟨v2, rfl, hr2, hf2, hb2⟩))
  go_ret
  have e1 : val 10000 l = x + y := by have h1 := Hv.out; rw [Hsum.out] at h1; omega
  rw [e1] at hr2
  exact ⟨_, rfl, hr2, hf2 _ (hf.mono HB0.out.size), (HB0.out.trans (hbl.mono HB0.out.size)).trans (hb2.mono (Nat.le_trans HB0.out.size hbl.size))⟩
set_option maxRecDepth 100000 in
theorem numMinus_any (x y : Nat) (hxy : y ≤ x) (va vb : Value) (w : World) (ha : Rd encN w va (digs 10000 x)) (hb : Rd encN w vb (digs 10000 y)) (hx : (digs 10000 x).length ≤ 900) (hy : (digs 10000 y).length ≤ 900) :
    Calls Tryz.prog 88 #[va, vb] w fun e w' => ∃ v, e = .returned v ∧ Rd encN w' v (digs 10000 (x - y)) ∧ From w.heap.size v ∧ Below w.heap.size w w' := by
  obtain ⟨aa, ca, rfl, _⟩ := ha.open'
  obtain ⟨ab, cb, rfl, _⟩ := hb.open'
  have Ha := Lib.hid ha
  have Hb := Lib.hid hb
  obtain ⟨n, hn⟩ : ∃ n, (digs 10000 x).length = n := ⟨_, rfl⟩
  obtain ⟨m, hm⟩ : ∃ n, (digs 10000 y).length = n := ⟨_, rfl⟩
  have Hn := Lib.hid hn
  have Hm := Lib.hid hm
  rw [hn] at hx Ha ⊢
  rw [hm] at hy Hb ⊢
  clear hn hm ha hb
  have hN1 : n ≤ n := Nat.le_refl _
  have hN2 : m ≤ n := by rw [← Hn.out, ← Hm.out]; exact digs_length_mono (by decide) hxy
  have hb1 : Blk ((w.alloc (.cells #[.slice aa n ca] 98)).alloc (.cells #[.slice ab m cb] 98)) w.heap.size #[.slice aa n ca] 98 := (Blk.new w _ _).alloc _
  have hb2 : Blk ((w.alloc (.cells #[.slice aa n ca] 98)).alloc (.cells #[.slice ab m cb] 98)) (w.heap.size + 1) #[.slice ab m cb] 98 := Blk.newAt _ _ _ (by simp)
  have hB0 : Below w.heap.size w ((w.alloc (.cells #[.slice aa n ca] 98)).alloc (.cells #[.slice ab m cb] 98)) := ((Below.refl _ w).alloc (Nat.le_refl _) _).alloc (by simp) _
  have Hfold := Lib.hid (fold_any 115 (.pointer (some ⟨w.heap.size, 0, none⟩)) (.pointer (some ⟨w.heap.size + 1, 0, none⟩)) (enters_of Tryz.func115 (by kernel_rfl) rfl) n (fun i => ((digs 10000 x).getD i 0 : Int) - ((digs 10000 y).getD i 0 : Int))
    ((w.alloc (.cells #[.slice aa n ca] 98)).alloc (.cells #[.slice ab m cb] 98)) (by omega)
    (fun i => by have h1 := getD_digit (n := x) i; have h2 := getD_digit (n := y) i; (try dsimp only); omega) (fun i hi => by (try dsimp only); rw [getD_out (by rw [Hn.out]; omega), getD_out (by rw [Hm.out]; omega)]; rfl)
    (by rw [digSum_sub, digSum_digs (by rw [Hn.out]; exact hN1), digSum_digs (by rw [Hm.out]; exact hN2)]; omega)
    (fun i W hi hW => minus1_any _ _ _ _ i _ _ W ((hb1.below hW hb1.lt).cell rfl) ((hb2.below hW hb2.lt).cell rfl) ((Ha.out.below hB0).below hW) ((Hb.out.below hB0).below hW) (by omega) (digs_lt (by decide) x) (digs_lt (by decide) y)))
  have Hsum := Lib.hid (show digSum 10000 (fun i => ((digs 10000 x).getD i 0 : Int) - ((digs 10000 y).getD i 0 : Int)) n = ((x - y : Nat) : Int) by rw [digSum_sub, digSum_digs (by rw [Hn.out]; exact hN1), digSum_digs (by rw [Hm.out]; exact hN2)]; omega)
  have HB0 := Lib.hid hB0
  clear hb1 hb2 hB0
  go_enter Tryz.func88, Tryz.ntmps88
  go_wp2_with (first | (go_at_call 112; refine (Hfold.out).mono ?_; rintro e w1 ⟨v, rfl, l, hr, hf, hd, hv, hbl⟩; have Hd := Lib.hid hd; have Hv := Lib.hid hv; clear hd hv) | (go_at_call 107; refine (trimmed_any l Hd.out _ _ hr).mono ?_; rintro e w2 ⟨v2, rfl, hr2, hf2, hb2⟩))
  go_ret
  have e1 : val 10000 l = x - y := by have h1 := Hv.out; rw [Hsum.out] at h1; omega
  rw [e1] at hr2
  exact ⟨_, rfl, hr2, hf2 _ (hf.mono HB0.out.size), (HB0.out.trans (hbl.mono HB0.out.size)).trans (hb2.mono (Nat.le_trans HB0.out.size hbl.size))⟩
set_option maxRecDepth 100000 in
theorem numBy_any (x n : Nat) (hn : n < 10000) (va : Value) (w : World) (ha : Rd encN w va (digs 10000 x)) (hx : (digs 10000 x).length ≤ 900) :
    Calls Tryz.prog 108 #[va, .int .i64 (n : Int)] w fun e w' => ∃ v, e = .returned v ∧ Rd encN w' v (digs 10000 (x * n)) ∧ From w.heap.size v ∧ Below w.heap.size w w' := by
  obtain ⟨aa, ca, rfl, _⟩ := ha.open'
  have Ha := Lib.hid ha
  obtain ⟨N, hN⟩ : ∃ n, (digs 10000 x).length = n := ⟨_, rfl⟩
  have HN := Lib.hid hN
  rw [hN] at hx Ha ⊢
  clear hN ha
  have hb1 : Blk ((w.alloc (.cells #[.slice aa N ca] 98)).alloc (.cells #[.int .i64 (n : Int)] 3)) w.heap.size #[.slice aa N ca] 98 := (Blk.new w _ _).alloc _
  have hb2 : Blk ((w.alloc (.cells #[.slice aa N ca] 98)).alloc (.cells #[.int .i64 (n : Int)] 3)) (w.heap.size + 1) #[.int .i64 (n : Int)] 3 := Blk.newAt _ _ _ (by simp)
  have hB0 : Below w.heap.size w ((w.alloc (.cells #[.slice aa N ca] 98)).alloc (.cells #[.int .i64 (n : Int)] 3)) := ((Below.refl _ w).alloc (Nat.le_refl _) _).alloc (by simp) _
  have Hfold := Lib.hid (fold_any 138 (.pointer (some ⟨w.heap.size, 0, none⟩)) (.pointer (some ⟨w.heap.size + 1, 0, none⟩)) (enters_of Tryz.func138 (by kernel_rfl) rfl) N (fun i => ((digs 10000 x).getD i 0 : Int) * (n : Int))
    ((w.alloc (.cells #[.slice aa N ca] 98)).alloc (.cells #[.int .i64 (n : Int)] 3)) (by omega)
    (fun i => by
      have h1 := getD_digit (n := x) i
      try dsimp only
      generalize (digs 10000 x).getD i 0 = z at *
      have h2 : z * n ≤ 9999 * 9999 := Nat.mul_le_mul (by omega) (by omega)
      rw [← Int.natCast_mul]; omega) (fun i hi => by (try dsimp only); rw [getD_out (by rw [HN.out]; omega)]; simp)
    (by rw [digSum_mul, digSum_digs (by rw [HN.out]; exact Nat.le_refl _), ← Int.natCast_mul]; omega)
    (fun i W hi hW => by1_any _ _ n i _ _ W ((hb1.below hW hb1.lt).cell rfl) ((hb2.below hW hb2.lt).cell rfl) ((Ha.out.below hB0).below hW) (by omega) (digs_lt (by decide) x) hn))
  have Hsum := Lib.hid (show digSum 10000 (fun i => ((digs 10000 x).getD i 0 : Int) * (n : Int)) N = ((x * n : Nat) : Int) by rw [digSum_mul, digSum_digs (by rw [HN.out]; exact Nat.le_refl _), Int.natCast_mul])
  have HB0 := Lib.hid hB0
  clear hb1 hb2 hB0
  go_enter Tryz.func108, Tryz.ntmps108
  go_wp2_with (first | (go_at_call 112; refine (Hfold.out).mono ?_; rintro e w1 ⟨v, rfl, l, hr, hf, hd, hv, hbl⟩; have Hd := Lib.hid hd; have Hv := Lib.hid hv; clear hd hv) | (go_at_call 107; refine (trimmed_any l Hd.out _ _ hr).mono ?_; rintro e w2 ⟨v2, rfl, hr2, hf2, hb2⟩))
  go_ret
  have e1 : val 10000 l = x * n := by have h1 := Hv.out; rw [Hsum.out] at h1; exact Int.ofNat_inj.1 h1
  rw [e1] at hr2
  exact ⟨_, rfl, hr2, hf2 _ (hf.mono HB0.out.size), (HB0.out.trans (hbl.mono HB0.out.size)).trans (hb2.mono (Nat.le_trans HB0.out.size hbl.size))⟩
end Go.Proofs.YtgeoidnleagloaaGreatDoor
