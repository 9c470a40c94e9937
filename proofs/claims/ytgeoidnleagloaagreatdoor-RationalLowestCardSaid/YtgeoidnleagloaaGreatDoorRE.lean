/- Walks of the reference's integer functions: sums of digits. -/
import Derived.Test.YtgeoidnleagloaaGreatDoorRD
import Derived.Test.YtgeoidnleagloaaGreatDoorPL
set_option linter.unusedVariables false
set_option linter.unusedSimpArgs false
namespace Go.Proofs.YtgeoidnleagloaaGreatDoor
open Go.RowKit Yk

/-- What a round of 'plus' keeps. -/
def PlusRel (x y : Nat) (w : World) (out carry i : Value) (wr : World) : Prop :=
  ∃ (k c : Nat) (l : List Nat), i = .int .i64 k ∧ carry = .int .i64 c ∧ OwnL encN 3 wr w.heap.size out l ∧ Below w.heap.size w wr ∧ l.length = k ∧ c ≤ 1 ∧ (∀ d ∈ l, d < 10) ∧
    val 10 l + 10 ^ k * c = val 10 ((digs 10 x).take k) + val 10 ((digs 10 y).take k) ∧
    (k ≤ (digs 10 x).length ∨ k ≤ (digs 10 y).length ∨ (l.getLast? ≠ some 0 ∧ c = 0))

theorem plusRel_step {x y : Nat} {w : World} {k c da db : Nat} {l : List Nat} {w1 : World} {out i' c' : Value}
    (hl : l.length = k) (hd : ∀ d ∈ l, d < 10) (hv : val 10 l + 10 ^ k * c = val 10 ((digs 10 x).take k) + val 10 ((digs 10 y).take k))
    (hda : (digs 10 x).getD k 0 = da) (hdb : (digs 10 y).getD k 0 = db) (hin : k < (digs 10 x).length ∨ k < (digs 10 y).length ∨ 0 < c) (hc : c ≤ 1)
    (hown : OwnL encN 3 w1 w.heap.size out (l ++ [(c + da + db) % 10])) (hB : Below w.heap.size w w1) (hi : i' = .int .i64 ((k + 1 : Nat) : Int)) (hc' : c' = .int .i64 (((c + da + db) / 10 : Nat) : Int)) :
    PlusRel x y w out c' i' w1 := by
  subst hda; subst hdb
  have h1 := digs_getD_lt (B := 10) (by decide) x k
  have h2 := digs_getD_lt (B := 10) (by decide) y k
  refine ⟨k + 1, _, _, hi, hc', hown, hB, by simp [hl], by omega, ?_, sum_step hv hl, ?_⟩
  · intro d hm
    rcases List.mem_append.1 hm with hm | hm
    · exact hd d hm
    · simp at hm; omega
  · by_cases e1 : k < (digs 10 x).length
    · exact .inl e1
    · by_cases e2 : k < (digs 10 y).length
      · exact .inr (.inl e2)
      · have e3 : (digs 10 x).getD k 0 = 0 := by rw [List.getD, List.getElem?_eq_none (by omega)]; rfl
        have e4 : (digs 10 y).getD k 0 = 0 := by rw [List.getD, List.getElem?_eq_none (by omega)]; rfl
        refine .inr (.inr ⟨?_, ?_⟩)
        · rw [List.getLast?_concat, e3, e4]; simp; omega
        · rw [e3, e4]; omega

set_option maxRecDepth 100000 in
theorem refPlus_any (x y : Nat) (va vb : Value) (w : World) (ha : Rd encN w va (digs 10 x)) (hb : Rd encN w vb (digs 10 y)) (hx : (digs 10 x).length ≤ 1000) (hy : (digs 10 y).length ≤ 1000) :
    Calls Tryz.prog 93 #[va, vb] w fun e w' => ∃ v, e = .returned v ∧ Rd encN w' v (digs 10 (x + y)) ∧ From w.heap.size v ∧ Below w.heap.size w w' := by
  obtain ⟨aa, ca, rfl, hca, hca2, hcella⟩ := ha.open'
  obtain ⟨ab, cb, rfl, hcb, hcb2, hcellb⟩ := hb.open'
  have Hca := Lib.hid hcella; clear hcella
  have Hcb := Lib.hid hcellb; clear hcellb
  clear ha hb
  obtain ⟨n, hn⟩ : ∃ n, (digs 10 x).length = n := ⟨_, rfl⟩
  obtain ⟨m, hm⟩ : ∃ n, (digs 10 y).length = n := ⟨_, rfl⟩
  have Hn := Lib.hid hn
  have Hm := Lib.hid hm
  rw [hn] at hca hx ⊢
  rw [hm] at hcb hy ⊢
  clear hn hm
  go_enter Tryz.func93, Tryz.ntmps93
  go_wp2
  go_loopw [5, 6, 7] (fun out carry i wr => PlusRel x y w out carry i wr) (fun _ c i _ => (2 * (n + m + 2 - intOf i) + intOf c).toNat)
  case atStart => exact ⟨0, 0, [], rfl, rfl, OwnL.nil _ _, Below.refl _ _, rfl, by omega, by simp, by simp [val], by omega⟩
  case round =>
    obtain ⟨k, c, l, rfl, rfl, hown, hB, hl, hc, hd, hv, hk⟩ := hrel
    have Hl := Lib.hid hl; clear hl
    have Hd := Lib.hid hd; clear hd
    have Hv := Lib.hid hv; clear hv
    have Hk := Lib.hid hk; clear hk
    by_cases hin : k < n ∨ k < m ∨ 0 < c
    · have hkb : k ≤ n + m := by
        have h5 := Hk.out
        rw [Hn.out, Hm.out] at h5
        omega
      by_cases hkn : k < n
      · obtain ⟨ba, oa, rfl, hba, hc1⟩ := Hca.out k (by rw [Hn.out]; omega)
        have k1 := (hB.cell (p := ⟨ba, oa + k, none⟩) hba).trans hc1
        obtain ⟨da, eda⟩ : ∃ d, (digs 10 x)[k]'(by rw [Hn.out]; omega) = d := ⟨_, rfl⟩
        have hda : da < 10 := by rw [← eda]; exact digs_lt (by decide) x _ (List.getElem_mem _)
        have Hda := Lib.hid (show (digs 10 x).getD k 0 = da by rw [List.getD, List.getElem?_eq_getElem (by rw [Hn.out]; omega), eda]; rfl)
        rw [eda] at k1
        clear hc1 eda
        by_cases hkm : k < m
        · obtain ⟨bb, ob, rfl, hbb, hc2⟩ := Hcb.out k (by rw [Hm.out]; omega)
          have k2 := (hB.cell (p := ⟨bb, ob + k, none⟩) hbb).trans hc2
          obtain ⟨db, edb⟩ : ∃ d, (digs 10 y)[k]'(by rw [Hm.out]; omega) = d := ⟨_, rfl⟩
          have hdb : db < 10 := by rw [← edb]; exact digs_lt (by decide) y _ (List.getElem_mem _)
          have Hdb := Lib.hid (show (digs 10 y).getD k 0 = db by rw [List.getD, List.getElem?_eq_getElem (by rw [Hm.out]; omega), edb]; rfl)
          rw [edb] at k2
          clear hc2 edb
          have Hin := Lib.hid hin; clear hin
          have hlb : l.length ≤ n + m + 2 := by rw [Hl.out]; omega
          have hbs := hB.size
          go_wp2_with (at_builtin; (refine appN rfl _ _ rfl rfl (hown.alloc _) wr.heap.size 1 _ rfl (cell_new1 _ _ _) ((c + da + db) % 10) (int_eq (by omega)) (by omega) (by simp; omega) ?_); intro v' w1 hown1 hB1)
          go_roundw
          case rel => exact plusRel_step Hl.out Hd.out Hv.out Hda.out Hdb.out (by rw [Hn.out, Hm.out]; exact Hin.out) hc hown1 ((hB.alloc hB.size _).trans hB1) (int_eq (by omega)) (int_eq (by omega))
          case measure => simp [intOf]; omega
        · have Hdb := Lib.hid (show (digs 10 y).getD k 0 = 0 by rw [List.getD, List.getElem?_eq_none (by rw [Hm.out]; omega)]; rfl)
          have Hin := Lib.hid hin; clear hin
          have hlb : l.length ≤ n + m + 2 := by rw [Hl.out]; omega
          have hbs := hB.size
          go_wp2_with (at_builtin; refine appN rfl _ _ rfl rfl (hown.alloc _) wr.heap.size 1 _ rfl (cell_new1 _ _ _) ((c + da + 0) % 10) (int_eq (by omega)) (by omega) (by simp; omega) ?_; intro v' w1 hown1 hB1)
          go_roundw
          case rel => exact plusRel_step Hl.out Hd.out Hv.out Hda.out Hdb.out (by rw [Hn.out, Hm.out]; exact Hin.out) hc hown1 ((hB.alloc hB.size _).trans hB1) (int_eq (by omega)) (int_eq (by omega))
          case measure => simp [intOf]; omega
      · have Hda := Lib.hid (show (digs 10 x).getD k 0 = 0 by rw [List.getD, List.getElem?_eq_none (by rw [Hn.out]; omega)]; rfl)
        by_cases hkm : k < m
        · obtain ⟨bb, ob, rfl, hbb, hc2⟩ := Hcb.out k (by rw [Hm.out]; omega)
          have k2 := (hB.cell (p := ⟨bb, ob + k, none⟩) hbb).trans hc2
          obtain ⟨db, edb⟩ : ∃ d, (digs 10 y)[k]'(by rw [Hm.out]; omega) = d := ⟨_, rfl⟩
          have hdb : db < 10 := by rw [← edb]; exact digs_lt (by decide) y _ (List.getElem_mem _)
          have Hdb := Lib.hid (show (digs 10 y).getD k 0 = db by rw [List.getD, List.getElem?_eq_getElem (by rw [Hm.out]; omega), edb]; rfl)
          rw [edb] at k2
          clear hc2 edb
          have Hin := Lib.hid hin; clear hin
          have hlb : l.length ≤ n + m + 2 := by rw [Hl.out]; omega
          have hbs := hB.size
          go_wp2_with (at_builtin; refine appN rfl _ _ rfl rfl (hown.alloc _) wr.heap.size 1 _ rfl (cell_new1 _ _ _) ((c + 0 + db) % 10) (int_eq (by omega)) (by omega) (by simp; omega) ?_; intro v' w1 hown1 hB1)
          go_roundw
          case rel => exact plusRel_step Hl.out Hd.out Hv.out Hda.out Hdb.out (by rw [Hn.out, Hm.out]; exact Hin.out) hc hown1 ((hB.alloc hB.size _).trans hB1) (int_eq (by omega)) (int_eq (by omega))
          case measure => simp [intOf]; omega
        · have Hdb := Lib.hid (show (digs 10 y).getD k 0 = 0 by rw [List.getD, List.getElem?_eq_none (by rw [Hm.out]; omega)]; rfl)
          have hc0 : 0 < c := by omega
          have Hin := Lib.hid hin; clear hin
          have hlb : l.length ≤ n + m + 2 := by rw [Hl.out]; omega
          have hbs := hB.size
          go_wp2_with (at_builtin; refine appN rfl _ _ rfl rfl (hown.alloc _) wr.heap.size 1 _ rfl (cell_new1 _ _ _) ((c + 0 + 0) % 10) (int_eq (by omega)) (by omega) (by simp; omega) ?_; intro v' w1 hown1 hB1)
          go_roundw
          case rel => exact plusRel_step Hl.out Hd.out Hv.out Hda.out Hdb.out (by rw [Hn.out, Hm.out]; exact Hin.out) hc hown1 ((hB.alloc hB.size _).trans hB1) (int_eq (by omega)) (int_eq (by omega))
          case measure => simp [intOf]; omega
    · have h1 : decide (k < n) = false := by simp; omega
      have h2 : decide (k < m) = false := by simp; omega
      obtain rfl : c = 0 := by omega
      go_wp2
      go_ret
      refine ⟨_, rfl, ?_, hown.from, hB⟩
      rw [← sum_end (B := 10) (by decide) Hv.out Hl.out Hd.out (by rw [Hn.out]; omega) (by rw [Hm.out]; omega) (by rcases Hk.out with h | h | h <;> simp_all)]
      exact hown.rd
end Go.Proofs.YtgeoidnleagloaaGreatDoor
