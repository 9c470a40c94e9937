/- Walks of package integer: both, one, sums of signed numbers. -/
import Derived.Laws.EntriesVeiled
import Derived.Deep.RegionHeld3
import Derived.Test.YtgeoidnleagloaaGreatDoorII
import Derived.Test.YtgeoidnleagloaaGreatDoorIJ
set_option linter.unusedVariables false
set_option linter.unusedSimpArgs false
namespace Go.Proofs.YtgeoidnleagloaaGreatDoor
open Go.RowKit Yk

theorem digs_len_BIG {x : Nat} (h : x < BIG) : (digs 10000 x).length ≤ 50 := by
  refine (digs_length_le (by decide) x 50).2 (Nat.lt_of_lt_of_le h ?_)
  unfold BIG
  rw [show (10000 : Nat) = 10 ^ 4 from rfl, ← Nat.pow_mul]
  exact Nat.le_refl _
theorem digs_len_nS {s : ByteArray} (h : vS s = true) : (digs 10000 (nS s).natAbs).length ≤ 50 := digs_len_BIG (nS_lt h)

theorem isValid_is {s : ByteArray} {b : Bool} (h : vS s = b) (w : World) (hs : s.size ≤ maxLen) : Calls Tryz.prog 78 #[.string s] w fun e w' => e = .returned (.bool b) ∧ Below w.heap.size w w' := by
  have := isValid_any s w hs; rwa [h] at this

/-- The two results of 'both', in memory. -/
abbrev noSg : Array Value := #[.bool false, .slice none 0 0]
set_option maxRecDepth 100000 in
theorem both_no (a b : ByteArray) (h : (vS a && vS b) = false) (w : World) (ha : a.size ≤ maxLen) (hb : b.size ≤ maxLen) :
    Calls Tryz.prog 79 #[.string a, .string b] w fun e w' => e = .returned (.tuple #[.agg #[.bool false, .slice none 0 0], .agg #[.bool false, .slice none 0 0], .bool false]) ∧ Below w.heap.size w w' := by
  unfold maxLen at ha hb
  have R0 : ∀ w1, Below (w.heap.size + 1 + 1) ((w.alloc (.cells #[.bool false, .slice none 0 0] 100)).alloc (.cells #[.bool false, .slice none 0 0] 100)) w1 →
      Blk w1 w.heap.size #[.bool false, .slice none 0 0] 100 ∧ Blk w1 (w.heap.size + 1) #[.bool false, .slice none 0 0] 100 ∧ Below w.heap.size w w1 := fun w1 h1 =>
    ⟨((Blk.new w _ _).alloc _).below h1 (by omega), (Blk.newAt _ _ _ (by simp)).below h1 (by omega), (((Below.refl _ w).alloc (Nat.le_refl _) _).alloc (by simp) _).trans (h1.mono (by omega))⟩
  have HR := Lib.hid R0
  clear R0
  cases hva : vS a with
  | false =>
    have Ha := Lib.hid (fun w => isValid_is hva w ha)
    clear hva h
    go_enter Tryz.func79, Tryz.ntmps79
    go_wp2_with (go_at_call 78; refine (Ha.out _).mono ?_; rintro e w1 ⟨rfl, hb1⟩; obtain ⟨r1, r2, r3⟩ := HR.out w1 (by simpa using hb1); obtain ⟨c1, c2, c3, c4, _⟩ := blk2 r1; obtain ⟨d1, d2, d3, d4, _⟩ := blk2 r2)
    refine bodyPost_ret (v := .tuple #[.agg #[.bool false, .slice none 0 0], .agg #[.bool false, .slice none 0 0], .bool false]) (by simp [results, Tryz.results79, go_sem, c1, c2, c3, c4, d1, d2, d3, d4]) rfl ⟨rfl, ?_⟩
    exact (((r3.setCell (by simp) _).setCell (by simp) _).setCell (by simp) _).setCell (by simp) _
  | true =>
    have hvb : vS b = false := by rw [hva] at h; simpa using h
    have Ha := Lib.hid (fun w => isValid_is hva w ha)
    have Hb := Lib.hid (fun w => isValid_is hvb w hb)
    clear hva hvb h
    go_enter Tryz.func79, Tryz.ntmps79
    go_wp2_with fail
    (with_reducible refine (Ha.out _).mono ?_); rintro e w1 ⟨rfl, hb1⟩
    go_wp2_with fail
    (with_reducible refine (Hb.out _).mono ?_); rintro e w2 ⟨rfl, hb2⟩
    obtain ⟨r1, r2, r3⟩ := HR.out w2 (by simp at hb1; exact hb1.trans (hb2.mono (by have := hb1.size; simp at this; omega)))
    obtain ⟨c1, c2, c3, c4, _⟩ := blk2 r1
    obtain ⟨d1, d2, d3, d4, _⟩ := blk2 r2
    go_wp2
    refine bodyPost_ret (v := .tuple #[.agg #[.bool false, .slice none 0 0], .agg #[.bool false, .slice none 0 0], .bool false]) (by simp [results, Tryz.results79, go_sem, c1, c2, c3, c4, d1, d2, d3, d4]) rfl ⟨rfl, ?_⟩
    exact (((r3.setCell (by simp) _).setCell (by simp) _).setCell (by simp) _).setCell (by simp) _

set_option maxRecDepth 100000 in
theorem both_yes (a b : ByteArray) (hva : vS a = true) (hvb : vS b = true) (w : World) :
    Calls Tryz.prog 79 #[.string a, .string b] w fun e w' => ∃ v1 v2, e = .returned (.tuple #[.agg #[.bool (negB a.data.toList), v1], .agg #[.bool (negB b.data.toList), v2], .bool true]) ∧ Rd encN w' v1 (digs 10000 (nS a).natAbs) ∧ Rd encN w' v2 (digs 10000 (nS b).natAbs) ∧ From w.heap.size v1 ∧ From w.heap.size v2 ∧ Below w.heap.size w w' := by
  have ha : a.size ≤ maxLen := by have := vS_size hva; unfold maxLen; omega
  have hb : b.size ≤ maxLen := by have := vS_size hvb; unfold maxLen; omega
  have R0 : ∀ w1, Below (w.heap.size + 1 + 1) ((w.alloc (.cells #[.bool false, .slice none 0 0] 100)).alloc (.cells #[.bool false, .slice none 0 0] 100)) w1 →
      Blk w1 w.heap.size #[.bool false, .slice none 0 0] 100 ∧ Blk w1 (w.heap.size + 1) #[.bool false, .slice none 0 0] 100 ∧ Below w.heap.size w w1 := fun w1 h1 =>
    ⟨((Blk.new w _ _).alloc _).below h1 (by omega), (Blk.newAt _ _ _ (by simp)).below h1 (by omega), (((Below.refl _ w).alloc (Nat.le_refl _) _).alloc (by simp) _).trans (h1.mono (by omega))⟩
  have HR := Lib.hid R0
  clear R0
  have Ha := Lib.hid (fun w => isValid_is hva w ha)
  have Hb := Lib.hid (fun w => isValid_is hvb w hb)
  have Pa := Lib.hid (fun w => parse_any a w hva)
  have Pb := Lib.hid (fun w => parse_any b w hvb)
  obtain ⟨na, hna⟩ : ∃ x, negB a.data.toList = x := ⟨_, rfl⟩
  obtain ⟨nb, hnb⟩ : ∃ x, negB b.data.toList = x := ⟨_, rfl⟩
  rw [hna] at Pa ⊢
  rw [hnb] at Pb ⊢
  clear hva hvb ha hb hna hnb
  go_enter Tryz.func79, Tryz.ntmps79
  go_wp2_with fail
  (with_reducible refine (Ha.out _).mono ?_); rintro e w1 ⟨rfl, hb1⟩
  go_wp2_with fail
  (with_reducible refine (Hb.out _).mono ?_); rintro e w2 ⟨rfl, hb2⟩
  go_wp2_with fail
  (with_reducible refine (Pa.out _).mono ?_); rintro e w3 ⟨v1, rfl, hr1, hf1, hb3⟩
  go_wp2_with fail
  (with_reducible refine (Pb.out _).mono ?_); rintro e w4 ⟨v2, rfl, hr2, hf2, hb4⟩
  have hbb : Below (w.heap.size + 1 + 1) ((w.alloc (.cells #[.bool false, .slice none 0 0] 100)).alloc (.cells #[.bool false, .slice none 0 0] 100)) w4 := by
    simp only [World.size_alloc] at hb1
    have s1 := hb1.size
    simp only [World.size_alloc] at s1
    have s2 := hb2.size
    have s3 := hb3.size
    exact ((hb1.trans (hb2.mono (by omega))).trans (hb3.mono (by omega))).trans (hb4.mono (by omega))
  have s1 := hb1.size
  have s2 := hb2.size
  have s3 := hb3.size
  simp only [World.size_alloc] at s1
  obtain ⟨r1, r2, r3⟩ := HR.out w4 hbb
  obtain ⟨c1, c2, c3, c4, _⟩ := blk2 r1
  obtain ⟨d1, d2, d3, d4, _⟩ := blk2 r2
  have hq1 := hr1.below hb4
  obtain ⟨a1, k1, rfl, _⟩ := hr1.open'
  obtain ⟨a2, k2, rfl, _⟩ := hr2.open'
  have Hq1 := Lib.hid hq1
  have Hq2 := Lib.hid hr2
  clear hq1 hr1 hr2 hbb hb1 hb2 hb3 hb4
  go_wp2
  have f1 : From (w.heap.size + 2) _ := hf1.mono (by omega)
  have f2 : From (w.heap.size + 2) _ := hf2.mono (by omega)
  refine bodyPost_ret (v := .tuple #[.agg #[.bool na, .slice a1 _ k1], .agg #[.bool nb, .slice a2 _ k2], .bool true]) (by simp [results, Tryz.results79, go_sem, c1, c2, c3, c4, d1, d2, d3, d4]) rfl ⟨_, _, rfl, ?_, ?_, f1.mono (by omega), f2.mono (by omega), ?_⟩
  · exact (((Hq1.out.setCell f1 (by simp) _).setCell f1 (by simp) _).setCell f1 (by simp) _).setCell f1 (by simp) _
  · exact (((Hq2.out.setCell f2 (by simp) _).setCell f2 (by simp) _).setCell f2 (by simp) _).setCell f2 (by simp) _
  · exact (((r3.setCell (by simp) _).setCell (by simp) _).setCell (by simp) _).setCell (by simp) _
end Go.Proofs.YtgeoidnleagloaaGreatDoor
