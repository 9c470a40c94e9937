/- Walks of the reference's integer functions: differences of digits. -/
import Derived.Test.YtgeoidnleagloaaGreatDoorRE
set_option linter.unusedVariables false
set_option linter.unusedSimpArgs false
namespace Go.Proofs.YtgeoidnleagloaaGreatDoor
open Go.RowKit Yk

/-- What a round of 'minus' keeps. -/
def MinusRel (x y : Nat) (w : World) (out borrow i : Value) (wr : World) : Prop :=
  ∃ (k c : Nat) (l : List Nat), i = .int .i64 k ∧ borrow = .int .i64 c ∧ OwnL encN 3 wr w.heap.size out l ∧ Below w.heap.size w wr ∧ l.length = k ∧ c ≤ 1 ∧ (∀ d ∈ l, d < 10) ∧
    val 10 l + val 10 ((digs 10 y).take k) + 0 = val 10 ((digs 10 x).take k) + 10 ^ k * c ∧ k ≤ (digs 10 x).length
theorem minusRel_step {x y : Nat} {w : World} {k c c2 d da db : Nat} {l : List Nat} {w1 : World} {out i' c' : Value}
    (hl : l.length = k) (hd : ∀ d ∈ l, d < 10) (hv : val 10 l + val 10 ((digs 10 y).take k) + 0 = val 10 ((digs 10 x).take k) + 10 ^ k * c)
    (hda : (digs 10 x).getD k 0 = da) (hdb : (digs 10 y).getD k 0 = db) (hin : k < (digs 10 x).length) (hc : c ≤ 1) (h1 : da + 10 * c2 = d + c + db) (hc2 : c2 ≤ 1) (hd2 : d < 10)
    (hown : OwnL encN 3 w1 w.heap.size out (l ++ [d])) (hB : Below w.heap.size w w1) (hi : i' = .int .i64 ((k + 1 : Nat) : Int)) (hc' : c' = .int .i64 (c2 : Int)) :
    MinusRel x y w out c' i' w1 := by
  subst hda; subst hdb
  refine ⟨k + 1, c2, _, hi, hc', hown, hB, by simp [hl], hc2, ?_, diff_step (by decide) hv hl hc (digs_getD_lt (by decide) x k) (digs_getD_lt (by decide) y k) h1, hin⟩
  intro d hm
  rcases List.mem_append.1 hm with hm | hm
  · exact hd d hm
  · simp at hm; omega
theorem minus_end {x y k c : Nat} {l : List Nat} (hv : val 10 l + val 10 ((digs 10 y).take k) + 0 = val 10 ((digs 10 x).take k) + 10 ^ k * c) (hl : l.length = k) (hd : ∀ d ∈ l, d < 10) (hc : c ≤ 1)
    (hk : k = (digs 10 x).length) (hxy : y ≤ x) : val 10 l = x - y := by
  have h1 : (digs 10 y).length ≤ k := by
    rw [hk]
    apply Nat.le_of_not_lt
    intro h
    have := digs_len_lt (B := 10) (by decide) h
    omega
  rw [List.take_of_length_le h1, List.take_of_length_le (by omega : (digs 10 x).length ≤ k), val_digs (by decide), val_digs (by decide)] at hv
  have h2 := val_lt (B := 10) hd
  rw [hl] at h2
  rcases (show c = 0 ∨ c = 1 by omega) with rfl | rfl <;> omega

set_option maxRecDepth 100000 in
theorem refMinus_any (x y : Nat) (hxy : y ≤ x) (va vb : Value) (w : World) (ha : Rd encN w va (digs 10 x)) (hb : Rd encN w vb (digs 10 y)) (hx : (digs 10 x).length ≤ 1000) :
    Calls Tryz.prog 94 #[va, vb] w fun e w' => ∃ v, e = .returned v ∧ Rd encN w' v (digs 10 (x - y)) ∧ From w.heap.size v ∧ Below w.heap.size w w' := by
  obtain ⟨aa, ca, rfl, hca, hca2, hcella⟩ := ha.open'
  obtain ⟨ab, cb, rfl, hcb, hcb2, hcellb⟩ := hb.open'
  have Hca := Lib.hid hcella; clear hcella
  have Hcb := Lib.hid hcellb; clear hcellb
  clear ha hb
  obtain ⟨n, hn⟩ : ∃ n, (digs 10 x).length = n := ⟨_, rfl⟩
  obtain ⟨m, hm⟩ : ∃ n, (digs 10 y).length = n := ⟨_, rfl⟩
  have Hn := Lib.hid hn
  have Hm := Lib.hid hm
  rw [hn] at hca hx ⊢
  rw [hm] at hcb ⊢
  clear hn hm
  go_enter Tryz.func94, Tryz.ntmps94
  go_wp2
  go_loopw [5, 6, 7] (fun out borrow i wr => MinusRel x y w out borrow i wr) (fun _ c i _ => (n - intOf i).toNat)
  case atStart => exact ⟨0, 0, [], rfl, rfl, OwnL.nil _ _, Below.refl _ _, rfl, by omega, by simp, by simp [val], by omega⟩
  case round =>
    obtain ⟨k, c, l, rfl, rfl, hown, hB, hl, hc, hd, hv, hk⟩ := hrel
    have Hl := Lib.hid hl; clear hl
    have Hd := Lib.hid hd; clear hd
    have Hv := Lib.hid hv; clear hv
    rw [Hn.out] at hk
    by_cases hin : k < n
    · obtain ⟨ba, oa, rfl, hba, hc1⟩ := Hca.out k (by rw [Hn.out]; omega)
      have k1 := (hB.cell (p := ⟨ba, oa + k, none⟩) hba).trans hc1
      obtain ⟨da, eda⟩ : ∃ d, (digs 10 x)[k]'(by rw [Hn.out]; omega) = d := ⟨_, rfl⟩
      have hda : da < 10 := by rw [← eda]; exact digs_lt (by decide) x _ (List.getElem_mem _)
      have Hda := Lib.hid (show (digs 10 x).getD k 0 = da by rw [List.getD, List.getElem?_eq_getElem (by rw [Hn.out]; omega), eda]; rfl)
      rw [eda] at k1
      clear hc1 eda
      have hlb : l.length ≤ n + 2 := by rw [Hl.out]; omega
      have hbs := hB.size
      by_cases hkm : k < m
      · obtain ⟨bb, ob, rfl, hbb, hc2⟩ := Hcb.out k (by rw [Hm.out]; omega)
        have k2 := (hB.cell (p := ⟨bb, ob + k, none⟩) hbb).trans hc2
        obtain ⟨db, edb⟩ : ∃ d, (digs 10 y)[k]'(by rw [Hm.out]; omega) = d := ⟨_, rfl⟩
        have hdb : db < 10 := by rw [← edb]; exact digs_lt (by decide) y _ (List.getElem_mem _)
        have Hdb := Lib.hid (show (digs 10 y).getD k 0 = db by rw [List.getD, List.getElem?_eq_getElem (by rw [Hm.out]; omega), edb]; rfl)
        rw [edb] at k2
        clear hc2 edb
        by_cases hneg : da < c + db
        · go_wp2_with (at_builtin; refine appN rfl _ _ rfl rfl (hown.alloc _) wr.heap.size 1 _ rfl (cell_new1 _ _ _) (da + 10 - c - db) (int_eq (by omega)) (by omega) (by simp; omega) ?_; intro v' w1 hown1 hB1)
          go_roundw
          case rel => exact minusRel_step (c2 := 1) Hl.out Hd.out Hv.out Hda.out Hdb.out (by rw [Hn.out]; exact hin) hc (by omega) (by decide) (by omega) hown1 ((hB.alloc hB.size _).trans hB1) (int_eq (by omega)) (int_eq (by omega))
          case measure => simp [intOf]; omega
        · go_wp2_with (at_builtin; refine appN rfl _ _ rfl rfl (hown.alloc _) wr.heap.size 1 _ rfl (cell_new1 _ _ _) (da - c - db) (int_eq (by omega)) (by omega) (by simp; omega) ?_; intro v' w1 hown1 hB1)
          go_roundw
          case rel => exact minusRel_step (c2 := 0) Hl.out Hd.out Hv.out Hda.out Hdb.out (by rw [Hn.out]; exact hin) hc (by omega) (by decide) (by omega) hown1 ((hB.alloc hB.size _).trans hB1) (int_eq (by omega)) (int_eq (by omega))
          case measure => simp [intOf]; omega
      · have Hdb := Lib.hid (show (digs 10 y).getD k 0 = 0 by rw [List.getD, List.getElem?_eq_none (by rw [Hm.out]; omega)]; rfl)
        by_cases hneg : da < c
        · go_wp2_with (at_builtin; refine appN rfl _ _ rfl rfl (hown.alloc _) wr.heap.size 1 _ rfl (cell_new1 _ _ _) (da + 10 - c) (int_eq (by omega)) (by omega) (by simp; omega) ?_; intro v' w1 hown1 hB1)
          go_roundw
          case rel => exact minusRel_step (c2 := 1) Hl.out Hd.out Hv.out Hda.out Hdb.out (by rw [Hn.out]; exact hin) hc (by omega) (by decide) (by omega) hown1 ((hB.alloc hB.size _).trans hB1) (int_eq (by omega)) (int_eq (by omega))
          case measure => simp [intOf]; omega
        · go_wp2_with (at_builtin; refine appN rfl _ _ rfl rfl (hown.alloc _) wr.heap.size 1 _ rfl (cell_new1 _ _ _) (da - c) (int_eq (by omega)) (by omega) (by simp; omega) ?_; intro v' w1 hown1 hB1)
          go_roundw
          case rel => exact minusRel_step (c2 := 0) Hl.out Hd.out Hv.out Hda.out Hdb.out (by rw [Hn.out]; exact hin) hc (by omega) (by decide) (by omega) hown1 ((hB.alloc hB.size _).trans hB1) (int_eq (by omega)) (int_eq (by omega))
          case measure => simp [intOf]; omega
    · obtain rfl : k = n := by omega
      go_wp2_with (go_at_call 83; refine (refTrim_any l Hd.out _ _ hown.rd).mono ?_; rintro e w1 ⟨v1, rfl, hr1, hf1, hb1⟩)
      go_ret
      refine ⟨_, rfl, ?_, hf1 _ hown.from, hB.trans (hb1.mono hB.size)⟩
      rw [← minus_end Hv.out Hl.out Hd.out hc Hn.out.symm hxy]
      exact hr1
end Go.Proofs.YtgeoidnleagloaaGreatDoor
