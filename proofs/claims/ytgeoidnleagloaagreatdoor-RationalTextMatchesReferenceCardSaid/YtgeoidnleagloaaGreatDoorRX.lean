/- RX: RC RD RE RF RG RH RI RJ RK RL RM RN RO in one text. -/
import Derived.Deep.QuietTactic
import Derived.BigQuiet
import Derived.Test.YtgeoidnleagloaaGreatDoorRB
import Derived.Test.YtgeoidnleagloaaGreatDoorPL
import Derived.Test.YtgeoidnleagloaaGreatDoorWL
import Derived.Test.YtgeoidnleagloaaGreatDoorRA
set_option linter.unusedVariables false
set_option linter.unusedSimpArgs false
/- Walks of the reference's integer functions: order of lists of digits. -/
namespace Go.Proofs.YtgeoidnleagloaaGreatDoor
open Go.RowKit Yk

set_option maxRecDepth 100000 in
theorem refOrder_any (x y : Nat) (va vb : Value) (w : World) (ha : Rd encN w va (digs 10 x)) (hb : Rd encN w vb (digs 10 y)) :
    Calls Tryz.prog 95 #[va, vb] w fun e w' => e = .returned (.int .i64 (cmpN x y)) ∧ Below w.heap.size w w' := by
  obtain ⟨aa, ca, rfl, hca, hca2, hcella⟩ := ha.open'
  obtain ⟨ab, cb, rfl, hcb, hcb2, hcellb⟩ := hb.open'
  have Hca := Lib.hid hcella; clear hcella
  have Hcb := Lib.hid hcellb; clear hcellb
  clear ha hb
  by_cases hlen : (digs 10 x).length = (digs 10 y).length
  · obtain ⟨n, hn⟩ : ∃ n, (digs 10 x).length = n := ⟨_, rfl⟩
    have Hx := Lib.hid hn
    have Hy := Lib.hid (hlen.symm.trans hn)
    rw [← hlen, hn] at hcb ⊢
    rw [hn] at hca
    clear hlen hn
    have hc : ((n : Int) != n) = false := by simp
    go_enter Tryz.func95, Tryz.ntmps95
    go_wp2
    go_loopw [5] (fun i wr => ∃ j : Nat, j ≤ n ∧ i = .int .i64 ((j : Int) - 1) ∧ (digs 10 x).drop j = (digs 10 y).drop j ∧ Below w.heap.size w wr) (fun i _ => (intOf i + 1).toNat)
    case atStart => exact ⟨n, Nat.le_refl _, rfl, by rw [List.drop_of_length_le (by rw [Hx.out]; exact Nat.le_refl _), List.drop_of_length_le (by rw [Hy.out]; exact Nat.le_refl _)], Below.refl _ _⟩
    case round =>
      obtain ⟨j, hj, rfl, hd, hB⟩ := hrel
      have Hd := Lib.hid hd; clear hd
      cases j with
      | zero =>
        go_wp2
        go_ret
        exact ⟨ret_i64 (cmpN_eq (digs_inj (B := 10) (by decide) (by simpa using Hd.out))).symm, hB⟩
      | succ m =>
        obtain ⟨ba, oa, rfl, hba, hc1⟩ := Hca.out m (by rw [Hx.out]; omega)
        obtain ⟨bb, ob, rfl, hbb, hc2⟩ := Hcb.out m (by rw [Hy.out]; omega)
        have k1 := (hB.cell (p := ⟨ba, oa + m, none⟩) hba).trans hc1
        have k2 := (hB.cell (p := ⟨bb, ob + m, none⟩) hbb).trans hc2
        clear hc1 hc2
        obtain ⟨dx, ex⟩ : ∃ d, (digs 10 x)[m]'(by rw [Hx.out]; omega) = d := ⟨_, rfl⟩
        obtain ⟨dy, ey⟩ : ∃ d, (digs 10 y)[m]'(by rw [Hy.out]; omega) = d := ⟨_, rfl⟩
        rw [ex] at k1
        rw [ey] at k2
        have Ex := Lib.hid ex; clear ex
        have Ey := Lib.hid ey; clear ey
        by_cases h : dx = dy
        · have c1 : ((dx : Int) != dy) = false := by simp [h]
          have Hn := Lib.hid (drop_step (by rw [Hx.out]; omega) (by rw [Hy.out]; omega) Hd.out (Ex.out.trans (h.trans Ey.out.symm))); clear h
          go_wp2
          go_quiet (fail)
          go_wp2
          go_roundw
          case rel => exact ⟨m, by omega, by go_num, Hn.out, hB.drewN _⟩
          case measure => simp [intOf]
        · have c1 : ((dx : Int) != dy) = true := by rw [bne_iff_ne]; omega
          by_cases hlt : dx < dy
          · have c2 : decide (dx < dy) = true := by simp [hlt]
            have Hn := Lib.hid (digs_less (by decide) (by rw [Hx.out]; omega) (by rw [Hy.out]; omega) Hd.out (by rw [Ex.out, Ey.out]; exact hlt) : x < y); clear h
            go_wp2
            go_quiet (fail)
            go_wp2
            go_quiet (fail)
            go_wp2
            go_ret
            exact ⟨ret_i64 (cmpN_lt Hn.out).symm, (hB.drewN _).drewN _⟩
          · have c2 : decide (dx < dy) = false := by simp [hlt]
            have Hn := Lib.hid (digs_less (B := 10) (by decide) (by rw [Hy.out]; omega) (by rw [Hx.out]; omega) Hd.out.symm (by rw [Ex.out, Ey.out]; omega) : y < x); clear h
            go_wp2
            go_quiet (fail)
            go_wp2
            go_quiet (fail)
            go_wp2
            go_ret
            exact ⟨ret_i64 (cmpN_gt Hn.out).symm, (hB.drewN _).drewN _⟩
  · obtain ⟨n, hn⟩ : ∃ n, (digs 10 x).length = n := ⟨_, rfl⟩
    obtain ⟨m, hm⟩ : ∃ m, (digs 10 y).length = m := ⟨_, rfl⟩
    have h1 : n < m → x < y := fun h => digs_len_lt (B := 10) (by decide) (by omega)
    have h2 : m < n → y < x := fun h => digs_len_lt (B := 10) (by decide) (by omega)
    rw [hn, hm] at hlen
    rw [hn] at hca ⊢
    rw [hm] at hcb ⊢
    clear hn hm Hca Hcb
    have c1 : ((n : Int) != m) = true := by rw [bne_iff_ne]; omega
    by_cases hlt : n < m
    · have Hn := Lib.hid (h1 hlt); clear h1 h2
      go_enter Tryz.func95, Tryz.ntmps95
      go_wp2
      go_ret
      exact ⟨ret_i64 (cmpN_lt Hn.out).symm, Below.refl _ _⟩
    · have Hn := Lib.hid (h2 (by omega)); clear h1 h2
      go_enter Tryz.func95, Tryz.ntmps95
      go_wp2
      go_ret
      exact ⟨ret_i64 (cmpN_gt Hn.out).symm, Below.refl _ _⟩
end Go.Proofs.YtgeoidnleagloaaGreatDoor
/- Walks of the reference's integer functions: zeros in front left out; sums and differences of digits. -/
namespace Go.Proofs.YtgeoidnleagloaaGreatDoor
open Go.RowKit Yk

set_option maxRecDepth 100000 in
theorem refTrim_any (l : List Nat) (hd : ∀ d ∈ l, d < 10) (v : Value) (w : World) (hv : Rd encN w v l) :
    Calls Tryz.prog 83 #[v] w fun e w' => ∃ v', e = .returned v' ∧ Rd encN w' v' (digs 10 (val 10 l)) ∧ (∀ B, From B v → From B v') ∧ Below w.heap.size w w' := by
  rw [← trimZ_eq (by decide) l hd]
  obtain ⟨a, cap, rfl, hca, hca2, hcell⟩ := hv.open'
  have Hadr := Lib.hid hv.addr
  have Hc := Lib.hid hcell; clear hcell hv hd
  obtain ⟨n, hn⟩ : ∃ n, l.length = n := ⟨_, rfl⟩
  have Hn := Lib.hid hn
  rw [hn] at hca ⊢
  clear hn
  go_enter Tryz.func83, Tryz.ntmps83
  go_wp2
  go_loopw [0] (fun s wr => ∃ k : Nat, k ≤ n ∧ s = .slice a k cap ∧ trimZ (l.take k) = trimZ l ∧ Below w.heap.size w wr) (fun s _ => match s with | .slice _ k _ => k | _ => 0)
  case atStart => exact ⟨n, Nat.le_refl _, rfl, by rw [List.take_of_length_le (by rw [Hn.out]; exact Nat.le_refl _)], Below.refl _ _⟩
  case round =>
    obtain ⟨k, hk, rfl, ht, hB⟩ := hrel
    have Ht := Lib.hid ht; clear ht
    cases k with
    | zero =>
      go_wp2
      go_ret
      refine ⟨_, rfl, ?_, fun B h => h.len, hB⟩
      rw [← Ht.out, List.take_zero, trimZ_nil]
      have := (Rd.take_of (k := 0) (Nat.zero_le _) (Nat.zero_le _) hca2 Hc.out Hadr.out.1 Hadr.out.2).below hB
      rwa [List.take_zero] at this
    | succ m =>
      have hm : m < l.length := by rw [Hn.out]; omega
      have Hr := Lib.hid (Rd.take_of (k := m + 1) (by omega) (by omega) hca2 Hc.out Hadr.out.1 Hadr.out.2)
      obtain ⟨b, off, rfl, hb, hc1⟩ := Hc.out m hm
      have k1 := (hB.cell (p := ⟨b, off + m, none⟩) hb).trans hc1
      clear hc1
      by_cases h0 : l[m] = 0
      · have c1 : ((l[m] : Int) == 0) = true := by rw [h0]; rfl
        have Ht2 := Lib.hid ((trimZ_zero hm h0).symm.trans Ht.out); clear h0
        go_wp2
        go_roundw
        case rel => exact ⟨m, by omega, rfl, Ht2.out, hB⟩
        case measure => simp
      · have c1 : ((l[m] : Int) == 0) = false := by rw [beq_eq_false_iff_ne]; omega
        have Ht2 := Lib.hid ((trimZ_stop hm h0).symm.trans Ht.out); clear h0
        go_wp2
        go_ret
        refine ⟨_, rfl, ?_, fun B h => h.len, hB⟩
        rw [← Ht2.out]
        exact Hr.out.below hB

end Go.Proofs.YtgeoidnleagloaaGreatDoor
/- Walks of the reference's integer functions: sums of digits. -/
namespace Go.Proofs.YtgeoidnleagloaaGreatDoor
open Go.RowKit Yk

/-- What a round of 'plus' keeps. -/
def PlusRel (x y : Nat) (w : World) (out carry i : Value) (wr : World) : Prop :=
  ∃ (k c : Nat) (l : List Nat), i = .int .i64 k ∧ carry = .int .i64 c ∧ OwnL encN 3 wr w.heap.size out l ∧ Below w.heap.size w wr ∧ l.length = k ∧ c ≤ 1 ∧ (∀ d ∈ l, d < 10) ∧
    val 10 l + 10 ^ k * c = val 10 ((digs 10 x).take k) + val 10 ((digs 10 y).take k) ∧
    (k ≤ (digs 10 x).length ∨ k ≤ (digs 10 y).length ∨ (l.getLast? ≠ some 0 ∧ c = 0))

theorem plusRel_step {x y : Nat} {w : World} {k c da db : Nat} {l : List Nat} {w1 : World} {out i' c' : Value}
    (hl : l.length = k) (hd : ∀ d ∈ l, d < 10) (hv : val 10 l + 10 ^ k * c = val 10 ((digs 10 x).take k) + val 10 ((digs 10 y).take k))
    (hda : (digs 10 x).getD k 0 = da) (hdb : (digs 10 y).getD k 0 = db) (hin : k < (digs 10 x).length ∨ k < (digs 10 y).length ∨ 0 < c) (hc : c ≤ 1)
    (hown : OwnL encN 3 w1 w.heap.size out (l ++ [(c + da + db) % 10])) (hB : Below w.heap.size w w1) (hi : i' = .int .i64 ((k + 1 : Nat) : Int)) (hc' : c' = .int .i64 (((c + da + db) / 10 : Nat) : Int)) :
    PlusRel x y w out c' i' w1 := by
  subst hda; subst hdb
  have h1 := digs_getD_lt (B := 10) (by decide) x k
  have h2 := digs_getD_lt (B := 10) (by decide) y k
  refine ⟨k + 1, _, _, hi, hc', hown, hB, by simp [hl], by omega, ?_, sum_step hv hl, ?_⟩
  · intro d hm
    rcases List.mem_append.1 hm with hm | hm
    · exact hd d hm
    · simp at hm; omega
  · by_cases e1 : k < (digs 10 x).length
    · exact .inl e1
    · by_cases e2 : k < (digs 10 y).length
      · exact .inr (.inl e2)
      · have e3 : (digs 10 x).getD k 0 = 0 := by rw [List.getD, List.getElem?_eq_none (by omega)]; rfl
        have e4 : (digs 10 y).getD k 0 = 0 := by rw [List.getD, List.getElem?_eq_none (by omega)]; rfl
        refine .inr (.inr ⟨?_, ?_⟩)
        · rw [List.getLast?_concat, e3, e4]; simp; omega
        · rw [e3, e4]; omega

set_option maxRecDepth 100000 in
theorem refPlus_any (x y : Nat) (va vb : Value) (w : World) (ha : Rd encN w va (digs 10 x)) (hb : Rd encN w vb (digs 10 y)) (hx : (digs 10 x).length ≤ 1000) (hy : (digs 10 y).length ≤ 1000) :
    Calls Tryz.prog 93 #[va, vb] w fun e w' => ∃ v, e = .returned v ∧ Rd encN w' v (digs 10 (x + y)) ∧ From w.heap.size v ∧ Below w.heap.size w w' := by
  obtain ⟨aa, ca, rfl, hca, hca2, hcella⟩ := ha.open'
  obtain ⟨ab, cb, rfl, hcb, hcb2, hcellb⟩ := hb.open'
  have Hca := Lib.hid hcella; clear hcella
  have Hcb := Lib.hid hcellb; clear hcellb
  clear ha hb
  obtain ⟨n, hn⟩ : ∃ n, (digs 10 x).length = n := ⟨_, rfl⟩
  obtain ⟨m, hm⟩ : ∃ n, (digs 10 y).length = n := ⟨_, rfl⟩
  have Hn := Lib.hid hn
  have Hm := Lib.hid hm
  rw [hn] at hca hx ⊢
  rw [hm] at hcb hy ⊢
  clear hn hm
  go_enter Tryz.func93, Tryz.ntmps93
  go_wp2
  go_loopw [5, 6, 7] (fun out carry i wr => PlusRel x y w out carry i wr) (fun _ c i _ => (2 * (n + m + 2 - intOf i) + intOf c).toNat)
  case atStart => exact ⟨0, 0, [], rfl, rfl, OwnL.nil _ _, Below.refl _ _, rfl, by omega, by simp, by simp [val], by omega⟩
  case round =>
    obtain ⟨k, c, l, rfl, rfl, hown, hB, hl, hc, hd, hv, hk⟩ := hrel
    have Hl := Lib.hid hl; clear hl
    have Hd := Lib.hid hd; clear hd
    have Hv := Lib.hid hv; clear hv
    have Hk := Lib.hid hk; clear hk
    by_cases hin : k < n ∨ k < m ∨ 0 < c
    · have hkb : k ≤ n + m := by
        have h5 := Hk.out
        rw [Hn.out, Hm.out] at h5
        omega
      by_cases hkn : k < n
      · obtain ⟨ba, oa, rfl, hba, hc1⟩ := Hca.out k (by rw [Hn.out]; omega)
        have k1 := (hB.cell (p := ⟨ba, oa + k, none⟩) hba).trans hc1
        obtain ⟨da, eda⟩ : ∃ d, (digs 10 x)[k]'(by rw [Hn.out]; omega) = d := ⟨_, rfl⟩
        have hda : da < 10 := by rw [← eda]; exact digs_lt (by decide) x _ (List.getElem_mem _)
        have Hda := Lib.hid (show (digs 10 x).getD k 0 = da by rw [List.getD, List.getElem?_eq_getElem (by rw [Hn.out]; omega), eda]; rfl)
        rw [eda] at k1
        clear hc1 eda
        by_cases hkm : k < m
        · obtain ⟨bb, ob, rfl, hbb, hc2⟩ := Hcb.out k (by rw [Hm.out]; omega)
          have k2 := (hB.cell (p := ⟨bb, ob + k, none⟩) hbb).trans hc2
          obtain ⟨db, edb⟩ : ∃ d, (digs 10 y)[k]'(by rw [Hm.out]; omega) = d := ⟨_, rfl⟩
          have hdb : db < 10 := by rw [← edb]; exact digs_lt (by decide) y _ (List.getElem_mem _)
          have Hdb := Lib.hid (show (digs 10 y).getD k 0 = db by rw [List.getD, List.getElem?_eq_getElem (by rw [Hm.out]; omega), edb]; rfl)
          rw [edb] at k2
          clear hc2 edb
          have Hin := Lib.hid hin; clear hin
          have hlb : l.length ≤ n + m + 2 := by rw [Hl.out]; omega
          have hbs := hB.size
          go_wp2_with (at_builtin; (refine appN rfl _ _ rfl rfl (hown.alloc _) wr.heap.size 1 _ rfl (cell_new1 _ _ _) ((c + da + db) % 10) (int_eq (by omega)) (by omega) (by simp; omega) ?_); intro v' w1 hown1 hB1)
          go_roundw
          case rel => exact plusRel_step Hl.out Hd.out Hv.out Hda.out Hdb.out (by rw [Hn.out, Hm.out]; exact Hin.out) hc hown1 ((hB.alloc hB.size _).trans hB1) (int_eq (by omega)) (int_eq (by omega))
          case measure => simp [intOf]; omega
        · have Hdb := Lib.hid (show (digs 10 y).getD k 0 = 0 by rw [List.getD, List.getElem?_eq_none (by rw [Hm.out]; omega)]; rfl)
          have Hin := Lib.hid hin; clear hin
          have hlb : l.length ≤ n + m + 2 := by rw [Hl.out]; omega
          have hbs := hB.size
          go_wp2_with (at_builtin; refine appN rfl _ _ rfl rfl (hown.alloc _) wr.heap.size 1 _ rfl (cell_new1 _ _ _) ((c + da + 0) % 10) (int_eq (by omega)) (by omega) (by simp; omega) ?_; intro v' w1 hown1 hB1)
          go_roundw
          case rel => exact plusRel_step Hl.out Hd.out Hv.out Hda.out Hdb.out (by rw [Hn.out, Hm.out]; exact Hin.out) hc hown1 ((hB.alloc hB.size _).trans hB1) (int_eq (by omega)) (int_eq (by omega))
          case measure => simp [intOf]; omega
      · have Hda := Lib.hid (show (digs 10 x).getD k 0 = 0 by rw [List.getD, List.getElem?_eq_none (by rw [Hn.out]; omega)]; rfl)
        by_cases hkm : k < m
        · obtain ⟨bb, ob, rfl, hbb, hc2⟩ := Hcb.out k (by rw [Hm.out]; omega)
          have k2 := (hB.cell (p := ⟨bb, ob + k, none⟩) hbb).trans hc2
          obtain ⟨db, edb⟩ : ∃ d, (digs 10 y)[k]'(by rw [Hm.out]; omega) = d := ⟨_, rfl⟩
          have hdb : db < 10 := by rw [← edb]; exact digs_lt (by decide) y _ (List.getElem_mem _)
          have Hdb := Lib.hid (show (digs 10 y).getD k 0 = db by rw [List.getD, List.getElem?_eq_getElem (by rw [Hm.out]; omega), edb]; rfl)
          rw [edb] at k2
          clear hc2 edb
          have Hin := Lib.hid hin; clear hin
          have hlb : l.length ≤ n + m + 2 := by rw [Hl.out]; omega
          have hbs := hB.size
          go_wp2_with (at_builtin; refine appN rfl _ _ rfl rfl (hown.alloc _) wr.heap.size 1 _ rfl (cell_new1 _ _ _) ((c + 0 + db) % 10) (int_eq (by omega)) (by omega) (by simp; omega) ?_; intro v' w1 hown1 hB1)
          go_roundw
          case rel => exact plusRel_step Hl.out Hd.out Hv.out Hda.out Hdb.out (by rw [Hn.out, Hm.out]; exact Hin.out) hc hown1 ((hB.alloc hB.size _).trans hB1) (int_eq (by omega)) (int_eq (by omega))
          case measure => simp [intOf]; omega
        · have Hdb := Lib.hid (show (digs 10 y).getD k 0 = 0 by rw [List.getD, List.getElem?_eq_none (by rw [Hm.out]; omega)]; rfl)
          have hc0 : 0 < c := by omega
          have Hin := Lib.hid hin; clear hin
          have hlb : l.length ≤ n + m + 2 := by rw [Hl.out]; omega
          have hbs := hB.size
          go_wp2_with (at_builtin; refine appN rfl _ _ rfl rfl (hown.alloc _) wr.heap.size 1 _ rfl (cell_new1 _ _ _) ((c + 0 + 0) % 10) (int_eq (by omega)) (by omega) (by simp; omega) ?_; intro v' w1 hown1 hB1)
          go_roundw
          case rel => exact plusRel_step Hl.out Hd.out Hv.out Hda.out Hdb.out (by rw [Hn.out, Hm.out]; exact Hin.out) hc hown1 ((hB.alloc hB.size _).trans hB1) (int_eq (by omega)) (int_eq (by omega))
          case measure => simp [intOf]; omega
    · have h1 : decide (k < n) = false := by simp; omega
      have h2 : decide (k < m) = false := by simp; omega
      obtain rfl : c = 0 := by omega
      go_wp2
      go_ret
      refine ⟨_, rfl, ?_, hown.from, hB⟩
      rw [← sum_end (B := 10) (by decide) Hv.out Hl.out Hd.out (by rw [Hn.out]; omega) (by rw [Hm.out]; omega) (by rcases Hk.out with h | h | h <;> simp_all)]
      exact hown.rd
end Go.Proofs.YtgeoidnleagloaaGreatDoor
/- Walks of the reference's integer functions: differences of digits. -/
namespace Go.Proofs.YtgeoidnleagloaaGreatDoor
open Go.RowKit Yk

/-- What a round of 'minus' keeps. -/
def MinusRel (x y : Nat) (w : World) (out borrow i : Value) (wr : World) : Prop :=
  ∃ (k c : Nat) (l : List Nat), i = .int .i64 k ∧ borrow = .int .i64 c ∧ OwnL encN 3 wr w.heap.size out l ∧ Below w.heap.size w wr ∧ l.length = k ∧ c ≤ 1 ∧ (∀ d ∈ l, d < 10) ∧
    val 10 l + val 10 ((digs 10 y).take k) + 0 = val 10 ((digs 10 x).take k) + 10 ^ k * c ∧ k ≤ (digs 10 x).length
theorem minusRel_step {x y : Nat} {w : World} {k c c2 d da db : Nat} {l : List Nat} {w1 : World} {out i' c' : Value}
    (hl : l.length = k) (hd : ∀ d ∈ l, d < 10) (hv : val 10 l + val 10 ((digs 10 y).take k) + 0 = val 10 ((digs 10 x).take k) + 10 ^ k * c)
    (hda : (digs 10 x).getD k 0 = da) (hdb : (digs 10 y).getD k 0 = db) (hin : k < (digs 10 x).length) (hc : c ≤ 1) (h1 : da + 10 * c2 = d + c + db) (hc2 : c2 ≤ 1) (hd2 : d < 10)
    (hown : OwnL encN 3 w1 w.heap.size out (l ++ [d])) (hB : Below w.heap.size w w1) (hi : i' = .int .i64 ((k + 1 : Nat) : Int)) (hc' : c' = .int .i64 (c2 : Int)) :
    MinusRel x y w out c' i' w1 := by
  subst hda; subst hdb
  refine ⟨k + 1, c2, _, hi, hc', hown, hB, by simp [hl], hc2, ?_, diff_step (by decide) hv hl hc (digs_getD_lt (by decide) x k) (digs_getD_lt (by decide) y k) h1, hin⟩
  intro d hm
  rcases List.mem_append.1 hm with hm | hm
  · exact hd d hm
  · simp at hm; omega
theorem minus_end {x y k c : Nat} {l : List Nat} (hv : val 10 l + val 10 ((digs 10 y).take k) + 0 = val 10 ((digs 10 x).take k) + 10 ^ k * c) (hl : l.length = k) (hd : ∀ d ∈ l, d < 10) (hc : c ≤ 1)
    (hk : k = (digs 10 x).length) (hxy : y ≤ x) : val 10 l = x - y := by
  have h1 : (digs 10 y).length ≤ k := by
    rw [hk]
    apply Nat.le_of_not_lt
    intro h
    have := digs_len_lt (B := 10) (by decide) h
    omega
  rw [List.take_of_length_le h1, List.take_of_length_le (by omega : (digs 10 x).length ≤ k), val_digs (by decide), val_digs (by decide)] at hv
  have h2 := val_lt (B := 10) hd
  rw [hl] at h2
  rcases (show c = 0 ∨ c = 1 by omega) with rfl | rfl <;> omega

set_option maxRecDepth 100000 in
theorem refMinus_any (x y : Nat) (hxy : y ≤ x) (va vb : Value) (w : World) (ha : Rd encN w va (digs 10 x)) (hb : Rd encN w vb (digs 10 y)) (hx : (digs 10 x).length ≤ 1000) :
    Calls Tryz.prog 94 #[va, vb] w fun e w' => ∃ v, e = .returned v ∧ Rd encN w' v (digs 10 (x - y)) ∧ From w.heap.size v ∧ Below w.heap.size w w' := by
  obtain ⟨aa, ca, rfl, hca, hca2, hcella⟩ := ha.open'
  obtain ⟨ab, cb, rfl, hcb, hcb2, hcellb⟩ := hb.open'
  have Hca := Lib.hid hcella; clear hcella
  have Hcb := Lib.hid hcellb; clear hcellb
  clear ha hb
  obtain ⟨n, hn⟩ : ∃ n, (digs 10 x).length = n := ⟨_, rfl⟩
  obtain ⟨m, hm⟩ : ∃ n, (digs 10 y).length = n := ⟨_, rfl⟩
  have Hn := Lib.hid hn
  have Hm := Lib.hid hm
  rw [hn] at hca hx ⊢
  rw [hm] at hcb ⊢
  clear hn hm
  go_enter Tryz.func94, Tryz.ntmps94
  go_wp2
  go_loopw [5, 6, 7] (fun out borrow i wr => MinusRel x y w out borrow i wr) (fun _ c i _ => (n - intOf i).toNat)
  case atStart => exact ⟨0, 0, [], rfl, rfl, OwnL.nil _ _, Below.refl _ _, rfl, by omega, by simp, by simp [val], by omega⟩
  case round =>
    obtain ⟨k, c, l, rfl, rfl, hown, hB, hl, hc, hd, hv, hk⟩ := hrel
    have Hl := Lib.hid hl; clear hl
    have Hd := Lib.hid hd; clear hd
    have Hv := Lib.hid hv; clear hv
    rw [Hn.out] at hk
    by_cases hin : k < n
    · obtain ⟨ba, oa, rfl, hba, hc1⟩ := Hca.out k (by rw [Hn.out]; omega)
      have k1 := (hB.cell (p := ⟨ba, oa + k, none⟩) hba).trans hc1
      obtain ⟨da, eda⟩ : ∃ d, (digs 10 x)[k]'(by rw [Hn.out]; omega) = d := ⟨_, rfl⟩
      have hda : da < 10 := by rw [← eda]; exact digs_lt (by decide) x _ (List.getElem_mem _)
      have Hda := Lib.hid (show (digs 10 x).getD k 0 = da by rw [List.getD, List.getElem?_eq_getElem (by rw [Hn.out]; omega), eda]; rfl)
      rw [eda] at k1
      clear hc1 eda
      have hlb : l.length ≤ n + 2 := by rw [Hl.out]; omega
      have hbs := hB.size
      by_cases hkm : k < m
      · obtain ⟨bb, ob, rfl, hbb, hc2⟩ := Hcb.out k (by rw [Hm.out]; omega)
        have k2 := (hB.cell (p := ⟨bb, ob + k, none⟩) hbb).trans hc2
        obtain ⟨db, edb⟩ : ∃ d, (digs 10 y)[k]'(by rw [Hm.out]; omega) = d := ⟨_, rfl⟩
        have hdb : db < 10 := by rw [← edb]; exact digs_lt (by decide) y _ (List.getElem_mem _)
        have Hdb := Lib.hid (show (digs 10 y).getD k 0 = db by rw [List.getD, List.getElem?_eq_getElem (by rw [Hm.out]; omega), edb]; rfl)
        rw [edb] at k2
        clear hc2 edb
        by_cases hneg : da < c + db
        · go_wp2_with (at_builtin; refine appN rfl _ _ rfl rfl (hown.alloc _) wr.heap.size 1 _ rfl (cell_new1 _ _ _) (da + 10 - c - db) (int_eq (by omega)) (by omega) (by simp; omega) ?_; intro v' w1 hown1 hB1)
          go_roundw
          case rel => exact minusRel_step (c2 := 1) Hl.out Hd.out Hv.out Hda.out Hdb.out (by rw [Hn.out]; exact hin) hc (by omega) (by decide) (by omega) hown1 ((hB.alloc hB.size _).trans hB1) (int_eq (by omega)) (int_eq (by omega))
          case measure => simp [intOf]; omega
        · go_wp2_with (at_builtin; refine appN rfl _ _ rfl rfl (hown.alloc _) wr.heap.size 1 _ rfl (cell_new1 _ _ _) (da - c - db) (int_eq (by omega)) (by omega) (by simp; omega) ?_; intro v' w1 hown1 hB1)
          go_roundw
          case rel => exact minusRel_step (c2 := 0) Hl.out Hd.out Hv.out Hda.out Hdb.out (by rw [Hn.out]; exact hin) hc (by omega) (by decide) (by omega) hown1 ((hB.alloc hB.size _).trans hB1) (int_eq (by omega)) (int_eq (by omega))
          case measure => simp [intOf]; omega
      · have Hdb := Lib.hid (show (digs 10 y).getD k 0 = 0 by rw [List.getD, List.getElem?_eq_none (by rw [Hm.out]; omega)]; rfl)
        by_cases hneg : da < c
        · go_wp2_with (at_builtin; refine appN rfl _ _ rfl rfl (hown.alloc _) wr.heap.size 1 _ rfl (cell_new1 _ _ _) (da + 10 - c) (int_eq (by omega)) (by omega) (by simp; omega) ?_; intro v' w1 hown1 hB1)
          go_roundw
          case rel => exact minusRel_step (c2 := 1) Hl.out Hd.out Hv.out Hda.out Hdb.out (by rw [Hn.out]; exact hin) hc (by omega) (by decide) (by omega) hown1 ((hB.alloc hB.size _).trans hB1) (int_eq (by omega)) (int_eq (by omega))
          case measure => simp [intOf]; omega
        · go_wp2_with (at_builtin; refine appN rfl _ _ rfl rfl (hown.alloc _) wr.heap.size 1 _ rfl (cell_new1 _ _ _) (da - c) (int_eq (by omega)) (by omega) (by simp; omega) ?_; intro v' w1 hown1 hB1)
          go_roundw
          case rel => exact minusRel_step (c2 := 0) Hl.out Hd.out Hv.out Hda.out Hdb.out (by rw [Hn.out]; exact hin) hc (by omega) (by decide) (by omega) hown1 ((hB.alloc hB.size _).trans hB1) (int_eq (by omega)) (int_eq (by omega))
          case measure => simp [intOf]; omega
    · obtain rfl : k = n := by omega
      go_wp2_with (go_at_call 83; refine (refTrim_any l Hd.out _ _ hown.rd).mono ?_; rintro e w1 ⟨v1, rfl, hr1, hf1, hb1⟩)
      go_ret
      refine ⟨_, rfl, ?_, hf1 _ hown.from, hB.trans (hb1.mono hB.size)⟩
      rw [← minus_end Hv.out Hl.out Hd.out hc Hn.out.symm hxy]
      exact hr1
end Go.Proofs.YtgeoidnleagloaaGreatDoor
/- Walks of the reference's integer functions: products of digits. -/
namespace Go.Proofs.YtgeoidnleagloaaGreatDoor
open Go.RowKit Yk

/-- What an outer round of 'times' keeps. -/
def TimesOut (x y N : Nat) (w : World) (g : Nat) (i : Value) (wr : World) : Prop :=
  ∃ (k : Nat) (o : List Nat), i = .int .i64 k ∧ OwnL encN 3 wr w.heap.size (.slice (some ⟨g, 0, none⟩) N N) o ∧ Below w.heap.size w wr ∧ o.length = N ∧ (∀ d ∈ o, d < 10) ∧
    val 10 o = val 10 ((digs 10 x).take k) * y ∧ k ≤ (digs 10 x).length
/-- What an inner round keeps. -/
def TimesIn (x y N : Nat) (w : World) (g i : Nat) (carry kv : Value) (wr : World) : Prop :=
  ∃ (k c : Nat) (o : List Nat), kv = .int .i64 k ∧ carry = .int .i64 c ∧ OwnL encN 3 wr w.heap.size (.slice (some ⟨g, 0, none⟩) N N) o ∧ Below w.heap.size w wr ∧ o.length = N ∧ (∀ d ∈ o, d < 10) ∧ c ≤ 9 ∧
    val 10 o + 10 ^ (i + k) * c = val 10 ((digs 10 x).take i) * y + 10 ^ i * ((digs 10 x).getD i 0 * val 10 ((digs 10 y).take k)) ∧ (k ≤ (digs 10 y).length ∨ c = 0) ∧ k ≤ (digs 10 y).length + 1

theorem timesIn_eq {V y i k c da db p ov : Nat} {o b : List Nat} (hj : i + k < o.length) (hov : o[i + k] = ov) (hv : val 10 o + 10 ^ (i + k) * c = V * y + 10 ^ i * (da * val 10 (b.take k))) (hdb : b.getD k 0 = db) (hp : da * db = p) :
    val 10 (o.set (i + k) ((ov + c + p) % 10)) + 10 ^ (i + (k + 1)) * ((ov + c + p) / 10) = V * y + 10 ^ i * (da * val 10 (b.take (k + 1))) := by
  have h := mul_step (ab := p) hj hv
  rw [hov] at h
  rw [val_take_succ, hdb, Nat.mul_add da, ← Nat.mul_assoc da, Nat.mul_comm da (10 ^ k), Nat.mul_assoc (10 ^ k), hp, Nat.mul_add (10 ^ i), ← Nat.mul_assoc (10 ^ i) (10 ^ k), ← Nat.pow_add]
  have e : i + (k + 1) = i + k + 1 := by omega
  rw [e]
  omega
theorem set_digits {o : List Nat} {j d : Nat} (h : ∀ x ∈ o, x < 10) (hd : d < 10) : ∀ x ∈ o.set j d, x < 10 := by
  intro x hx
  rcases List.mem_or_eq_of_mem_set hx with h1 | h1
  · exact h x h1
  · omega
theorem timesIn_step {x y N : Nat} {w wr : World} {g i k c da db p ov : Nat} {o : List Nat} {c' k' u : Value}
    (hown : OwnL encN 3 wr w.heap.size (.slice (some ⟨g, 0, none⟩) N N) o) (hB : Below w.heap.size w wr) (hlo : o.length = N) (hdo : ∀ d ∈ o, d < 10) (hj : i + k < o.length) (hov : o[i + k] = ov) (hg : w.heap.size ≤ g)
    (hv : val 10 o + 10 ^ (i + k) * c = val 10 ((digs 10 x).take i) * y + 10 ^ i * ((digs 10 x).getD i 0 * val 10 ((digs 10 y).take k))) (hda : (digs 10 x).getD i 0 = da) (hdb : (digs 10 y).getD k 0 = db) (hp : da * db = p)
    (hb1 : ov < 10) (hb2 : c ≤ 9) (hb3 : p ≤ 81) (hk : k < (digs 10 y).length ∨ ov + c + p < 10) (hk2 : k ≤ (digs 10 y).length) (hk' : k' = .int .i64 ((k + 1 : Nat) : Int)) (hc' : c' = .int .i64 (((ov + c + p) / 10 : Nat) : Int)) (hu : u = encN ((ov + c + p) % 10)) (q : Nat) :
    TimesIn x y N w g i c' k' ((wr.drewN q).setCell ⟨g, i + k, none⟩ u) := by
  have hown' : OwnL encN 3 (wr.drewN q) w.heap.size (.slice (some ⟨g, 0, none⟩) N N) o := hown
  refine ⟨k + 1, _, _, hk', hc', hown'.set (i + k) hj ((ov + c + p) % 10) hu, (hB.drewN q).setCell hg _, by simpa using hlo, set_digits hdo (by omega), by omega, ?_, ?_, by omega⟩
  · rw [hda] at hv ⊢; exact timesIn_eq hj hov hv hdb hp
  · rcases hk with hk | hk
    · exact .inl hk
    · exact .inr (by omega)

set_option maxRecDepth 100000 in
theorem refTimes_any (x y : Nat) (va vb : Value) (w : World) (ha : Rd encN w va (digs 10 x)) (hb : Rd encN w vb (digs 10 y)) (hx : (digs 10 x).length ≤ 1000) (hy : (digs 10 y).length ≤ 1000) :
    Calls Tryz.prog 56 #[va, vb] w fun e w' => ∃ v, e = .returned v ∧ Rd encN w' v (digs 10 (x * y)) ∧ From w.heap.size v ∧ Below w.heap.size w w' := by
  obtain ⟨aa, ca, rfl, hca, hca2, hcella⟩ := ha.open'
  obtain ⟨ab, cb, rfl, hcb, hcb2, hcellb⟩ := hb.open'
  have Hca := Lib.hid hcella; clear hcella
  have Hcb := Lib.hid hcellb; clear hcellb
  clear ha hb
  obtain ⟨n, hn⟩ : ∃ n, (digs 10 x).length = n := ⟨_, rfl⟩
  obtain ⟨m, hm⟩ : ∃ n, (digs 10 y).length = n := ⟨_, rfl⟩
  have Hn := Lib.hid hn
  have Hm := Lib.hid hm
  rw [hn] at hca hx ⊢
  rw [hm] at hcb hy ⊢
  clear hn hm
  go_enter Tryz.func56, Tryz.ntmps56
  go_wp2_with (at_make; refine wpList_makeN (enc := encN) (e := 3) (B := w.heap.size) rfl _ _ 53 rfl 0 8 Tryz.underlying53 infoInt rfl .i64 .i64 _ _ (n + m) rfl rfl (by omega) (by omega) (by omega) (by decide) (Nat.le_refl _) ?_; intro w1 hown1 hB1)
  go_loopw [6] (fun i wr => TimesOut x y (n + m) w w.heap.size i wr) (fun i _ => (n - intOf i).toNat)
  case atStart => exact ⟨0, _, rfl, hown1, hB1, by simp, by simp, by simp [val, val_replicate_zero], Nat.zero_le _⟩
  case round =>
    obtain ⟨i, o, rfl, hown, hB, hlo, hdo, hvo, hio⟩ := hrel
    have Hlo := Lib.hid hlo; clear hlo
    have Hdo := Lib.hid hdo; clear hdo
    have Hvo := Lib.hid hvo; clear hvo
    have Hown := Lib.hid hown; clear hown
    clear hown1 hB1
    rw [Hn.out] at hio
    by_cases hin : i < n
    · obtain ⟨ba, oa, rfl, hba, hc1⟩ := Hca.out i (by rw [Hn.out]; omega)
      obtain ⟨da, eda⟩ : ∃ d, (digs 10 x)[i]'(by rw [Hn.out]; omega) = d := ⟨_, rfl⟩
      have hda : da < 10 := by rw [← eda]; exact digs_lt (by decide) x _ (List.getElem_mem _)
      have Hda := Lib.hid (show (digs 10 x).getD i 0 = da by rw [List.getD, List.getElem?_eq_getElem (by rw [Hn.out]; omega), eda]; rfl)
      rw [eda] at hc1
      clear eda
      obtain ⟨wo, hwo⟩ : ∃ wo : World, wo = wr := ⟨_, rfl⟩
      rw [← hwo] at Hown hB
      subst hwo
      have Hc1 := Lib.hid hc1; clear hc1
      go_wp2
      go_loopw [7, 8] (fun c k wr => TimesIn x y (n + m) w w.heap.size i c k wr) (fun _ k _ => (m + 2 - intOf k).toNat)
      case atStart => exact ⟨0, 0, o, rfl, rfl, Hown.out, hB, Hlo.out, Hdo.out, by omega, by rw [Hvo.out]; simp [val], .inl (Nat.zero_le _), by omega⟩
      case round =>
        obtain ⟨k, c, o2, rfl, rfl, hown, hB2, hlo2, hdo2, hc, hv2, hk, hk2⟩ := hrel
        rw [Hm.out] at hk hk2
        have Hlo2 := Lib.hid hlo2; clear hlo2
        have Hdo2 := Lib.hid hdo2; clear hdo2
        have Hv2 := Lib.hid hv2; clear hv2
        by_cases hkin : k < m ∨ 0 < c
        · have hj : i + k < o2.length := by rw [Hlo2.out]; omega
          have k1 := (hB2.cell (p := ⟨ba, oa + i, none⟩) hba).trans Hc1.out
          have k3 := hown.cell (i + k) hj
          have k4 := hown.free (i + k)
          obtain ⟨ov, eov⟩ : ∃ d, o2[i + k] = d := ⟨_, rfl⟩
          have hov : ov < 10 := by rw [← eov]; exact Hdo2.out _ (List.getElem_mem _)
          rw [eov] at k3
          have Eov := Lib.hid eov; clear eov
          have hbs := hB2.size
          by_cases hkm : k < m
          · obtain ⟨bb, ob, rfl, hbb, hc2⟩ := Hcb.out k (by rw [Hm.out]; omega)
            have k2 := (hB2.cell (p := ⟨bb, ob + k, none⟩) hbb).trans hc2
            obtain ⟨db, edb⟩ : ∃ d, (digs 10 y)[k]'(by rw [Hm.out]; omega) = d := ⟨_, rfl⟩
            have hdb : db < 10 := by rw [← edb]; exact digs_lt (by decide) y _ (List.getElem_mem _)
            have Hdb := Lib.hid (show (digs 10 y).getD k 0 = db by rw [List.getD, List.getElem?_eq_getElem (by rw [Hm.out]; omega), edb]; rfl)
            rw [edb] at k2
            obtain ⟨p, hp⟩ : ∃ p, da * db = p := ⟨_, rfl⟩
            have hp2 : p ≤ 81 := by rw [← hp]; exact Nat.mul_le_mul (by omega : da ≤ 9) (by omega : db ≤ 9)
            have Hp := Lib.hid hp
            have hp3 : (da : Int) * (db : Int) = (p : Int) := by rw [← hp]; simp
            clear hc2 edb hp
            go_wp2
            have hw1 : IntKind.i64.wrap (p : Int) = p := IntWalk.i64_in _ (by omega)
            have hw2 : IntKind.i64.wrap ((ov : Int) + c + p) = (ov : Int) + c + p := IntWalk.i64_in _ (by omega)
            go_quiet (fail)
            clear hw1 hw2
            go_wp2
            go_roundw
            case rel => exact timesIn_step hown hB2 Hlo2.out Hdo2.out hj Eov.out (Nat.le_refl _) Hv2.out Hda.out Hdb.out Hp.out hov hc hp2 (.inl (by rw [Hm.out]; exact hkm)) (by rw [Hm.out]; omega) (int_eq (by omega)) (int_eq (by omega)) (int_eq (by omega)) _
            case measure => simp [intOf]; omega
          · obtain rfl : k = m := by omega
            have Hdb := Lib.hid (show (digs 10 y).getD k 0 = 0 by rw [List.getD, List.getElem?_eq_none (by rw [Hm.out]; omega)]; rfl)
            have hsum : ov + c < 10 := by
              have h5 := mul_last (B := 10) (by decide) hj Hv2.out (by
                rw [show (digs 10 y).take k = digs 10 y from List.take_of_length_le (by rw [Hm.out]; omega), val_digs (n := y) (by decide)]
                have h6 := mul_bound (B := 10) (i := i) (lb := k) (a := digs 10 x) (b := digs 10 y) (digs_lt (by decide) x) (digs_lt (by decide) y) Hm.out (by rw [Hn.out]; exact hin)
                rw [val_digs (by decide), val_take_succ, Nat.add_mul, Nat.mul_assoc] at h6
                exact h6)
              rw [Eov.out] at h5; exact h5
            have hc0 : 0 < c := by omega
            go_wp2
            go_roundw
            case rel => exact timesIn_step (q := 0) (p := 0) hown hB2 Hlo2.out Hdo2.out hj Eov.out (Nat.le_refl _) Hv2.out Hda.out Hdb.out (by simp) hov hc (by omega) (.inr (by omega)) (by rw [Hm.out]; omega) (int_eq (by omega)) (int_eq (by omega)) (int_eq (by omega))
            case measure => simp [intOf]; omega
        · obtain rfl : c = 0 := by omega
          have h1 : decide (k < m) = false := by simp; omega
          go_wp2
          go_roundw
          case rel =>
            refine ⟨i + 1, o2, int_eq (by omega), hown, hB2, Hlo2.out, Hdo2.out, ?_, by rw [Hn.out]; omega⟩
            have h5 := Hv2.out
            rw [show (digs 10 y).take k = digs 10 y from List.take_of_length_le (by rw [Hm.out]; omega), val_digs (n := y) (by decide)] at h5
            rw [val_take_succ, Nat.add_mul, Nat.mul_assoc]
            omega
          case measure => simp [intOf]; omega
    · obtain rfl : i = n := by omega
      have hown2 := Hown.out
      go_wp2_with (go_at_call 83; refine (refTrim_any o Hdo.out _ _ hown2.rd).mono ?_; rintro e w1 ⟨v1, rfl, hr1, hf1, hb1⟩)
      go_ret
      refine ⟨_, rfl, ?_, hf1 _ hown2.from, hB.trans (hb1.mono hB.size)⟩
      have h5 := Hvo.out
      rw [List.take_of_length_le (by rw [Hn.out]; omega), val_digs (by decide)] at h5
      rwa [h5] at hr1
end Go.Proofs.YtgeoidnleagloaaGreatDoor
/- Walks of the reference's integer functions: division of digits. -/
namespace Go.Proofs.YtgeoidnleagloaaGreatDoor
open Go.RowKit Yk

/-- What an outer round of 'divided' keeps. -/
def DivOut (x y N : Nat) (w : World) (g : Nat) (rv i : Value) (wr : World) : Prop :=
  ∃ (j R : Nat) (q : List Nat), i = .int .i64 ((j : Int) - 1) ∧ Rd encN wr rv (digs 10 R) ∧ From w.heap.size rv ∧ OwnL encN 3 wr w.heap.size (.slice (some ⟨g, 0, none⟩) N N) q ∧ Below w.heap.size w wr ∧ DivInv 10 x y j R q ∧ j ≤ N
/-- What an inner round keeps. -/
def DivIn (x y N : Nat) (w : World) (g : Nat) (j d R : Nat) (q : List Nat) (rv : Value) (wr : World) : Prop :=
  ∃ (t R2 : Nat), Rd encN wr rv (digs 10 R2) ∧ From w.heap.size rv ∧ OwnL encN 3 wr w.heap.size (.slice (some ⟨g, 0, none⟩) N N) (q.set j t) ∧ Below w.heap.size w wr ∧ R2 + t * y = d + 10 * R ∧ t ≤ 9
/-- How much of the remainder a slot in memory still holds. -/
noncomputable def restOf (wr : World) (rv : Value) : Nat := open Classical in if h : ∃ R, Rd encN wr rv (digs 10 R) then h.choose else 0
theorem rd_length {wr : World} {rv : Value} {l m : List Nat} (h1 : Rd encN wr rv l) (h2 : Rd encN wr rv m) : l = m := by
  obtain ⟨a, c, rfl, _, _, k1⟩ := h1.open'
  obtain ⟨a2, c2, e, _, _, k2⟩ := h2.open'
  injection e with e1 e2 e3
  subst e1
  refine List.ext_getElem e2 fun i hi hi2 => ?_
  obtain ⟨b, off, ha, _, hc⟩ := k1 i hi
  obtain ⟨b2, off2, ha2, _, hc2⟩ := k2 i hi2
  rw [ha] at ha2
  injection ha2 with ha2; injection ha2 with e4 e5
  subst e4; subst e5
  rw [hc] at hc2
  simp only [Option.some.injEq, encN, Value.int.injEq, true_and] at hc2
  omega
theorem restOf_eq {wr : World} {rv : Value} {R : Nat} (h : Rd encN wr rv (digs 10 R)) : restOf wr rv = R := by
  have h2 : ∃ R, Rd encN wr rv (digs 10 R) := ⟨R, h⟩
  unfold restOf
  rw [dif_pos h2]
  exact digs_inj (B := 10) (by decide) (rd_length h2.choose_spec h)

theorem cmpN_ge0 {x y : Nat} (h : y ≤ x) : decide (0 ≤ cmpN x y) = true := by
  have : ¬ x < y := by omega
  simp only [cmpN, this, if_false, decide_eq_true_eq]
  split <;> decide
theorem cmpN_lt0 {x y : Nat} (h : x < y) : decide (0 ≤ cmpN x y) = false := by rw [cmpN_lt h]; rfl
theorem div_count {B R2 t y d R : Nat} (h : R2 + t * y = d + B * R) (h1 : y ≤ R2) (hd : d < B) (hR : R < y) : t + 1 < B := by
  have e : (t + 1) * y = t * y + y := Nat.succ_mul t y
  have h2 : B * (R + 1) ≤ B * y := Nat.mul_le_mul_left B hR
  rw [Nat.mul_add] at h2
  exact Nat.lt_of_mul_lt_mul_right (a := y) (by omega)
theorem divIn_eq {B R2 t y d R : Nat} (h : R2 + t * y = d + B * R) (h1 : y ≤ R2) : (R2 - y) + (t + 1) * y = d + B * R := by
  have e : (t + 1) * y = t * y + y := Nat.succ_mul t y
  omega

set_option maxRecDepth 100000 in
theorem refDivided_any (x y : Nat) (hy0 : 0 < y) (va vb : Value) (w : World) (ha : Rd encN w va (digs 10 x)) (hb : Rd encN w vb (digs 10 y)) (hx : (digs 10 x).length ≤ 900) (hy : (digs 10 y).length ≤ 900) :
    Calls Tryz.prog 92 #[va, vb] w fun e w' => ∃ v1 v2, e = .returned (.tuple #[v1, v2]) ∧ Rd encN w' v1 (digs 10 (x / y)) ∧ Rd encN w' v2 (digs 10 (x % y)) ∧ From w.heap.size v1 ∧ From w.heap.size v2 ∧ Below w.heap.size w w' := by
  obtain ⟨aa, ca, rfl, hca, hca2, hcella⟩ := ha.open'
  have Hca := Lib.hid hcella; clear hcella
  have Hb := Lib.hid hb
  clear ha hb
  obtain ⟨n, hn⟩ : ∃ n, (digs 10 x).length = n := ⟨_, rfl⟩
  have Hn := Lib.hid hn
  rw [hn] at hca hx ⊢
  clear hn
  go_enter Tryz.func92, Tryz.ntmps92
  go_wp2_with (at_make; refine wpList_makeN (enc := encN) (e := 3) (B := w.heap.size) rfl _ _ 53 rfl 0 8 Tryz.underlying53 infoInt rfl .i64 .i64 _ _ n rfl rfl rfl rfl (by omega) (by decide) (Nat.le_refl _) ?_; intro w1 hown1 hB1)
  go_loopw [7, 8] (fun rv i wr => DivOut x y n w w.heap.size rv i wr) (fun _ i _ => (intOf i + 1).toNat)
  case atStart => exact ⟨n, 0, _, rfl, .inl ⟨rfl, digs_zero 10⟩, From.nil _, hown1, hB1, by rw [← Hn.out]; exact DivInv.start hy0, Nat.le_refl _⟩
  case round =>
    obtain ⟨j, R, q, rfl, hr, hfr, hown, hB, hinv, hjn⟩ := hrel
    have Hinv := Lib.hid hinv; clear hinv
    have Hr := Lib.hid hr; clear hr
    have Hown := Lib.hid hown; clear hown
    clear hown1 hB1
    cases j with
    | zero =>
      go_wp2_with (go_at_call 83; refine (refTrim_any q (Hinv.out.digits (by decide)) _ _ Hown.out.rd).mono ?_; rintro e w1 ⟨v1, rfl, hr1, hf1, hb1⟩)
      go_ret2
      have e1 := Hinv.out.done (by decide)
      refine ⟨_, _, rfl, ?_, ?_, hf1 _ Hown.out.from, hfr, hB.trans (hb1.mono hB.size)⟩
      · rw [← e1.1]; exact hr1
      · rw [← e1.2]; exact Hr.out.below hb1
    | succ j =>
      obtain ⟨ba, oa, rfl, hba, hc1⟩ := Hca.out j (by rw [Hn.out]; omega)
      have k1 := (hB.cell (p := ⟨ba, oa + j, none⟩) hba).trans hc1
      obtain ⟨d, ed⟩ : ∃ d, (digs 10 x)[j]'(by rw [Hn.out]; omega) = d := ⟨_, rfl⟩
      have hd : d < 10 := by rw [← ed]; exact digs_lt (by decide) x _ (List.getElem_mem _)
      rw [ed] at k1
      have Ed := Lib.hid ed
      clear hc1 ed
      have hRy : R < y := by obtain ⟨_, _, _, _, _, h⟩ := Hinv.out; exact h
      have hRl := digs_length_mono (B := 10) (by decide) (Nat.le_of_lt hRy)
      have hld : ∀ z ∈ [d] ++ digs 10 R, z < 10 := by
        intro z hz
        rcases List.mem_append.1 hz with h | h
        · simp at h; omega
        · exact digs_lt (by decide) R z h
      have Hld := Lib.hid hld; clear hld
      have hbs := hB.size
      go_wp2_with (first | (at_builtin; refine wpList_appRd (enc := encN) (e := 3) rfl _ _ 53 rfl (.int .i64 0) 8 Tryz.underlying53 infoInt rfl encN_one rfl (OwnL.lit1 wr d rfl) rfl (Hr.out.below ((Below.refl _ _).alloc (Nat.le_refl _) _)) (by simp; omega) (by decide) (by simp) ?_; intro v' w1 hown1 hB1) | (go_at_call 83; refine (refTrim_any ([d] ++ digs 10 R) Hld.out _ _ hown1.rd).mono ?_; rintro e w2 ⟨v2, rfl, hr2, hf2, hb2⟩))
      rw [shift_val (by decide) hd] at hr2
      have hb12 : Below wr.heap.size wr w2 := (((Below.refl _ _).alloc (Nat.le_refl _) _).trans hB1).trans (hb2.mono (by have := hB1.size; simp at this; omega))
      have hownq : OwnL encN 3 w2 w.heap.size (.slice (some ⟨w.heap.size, 0, none⟩) n n) (q.set j 0) := by
        have e0 : q.set j 0 = q := by
          have hjq : j < q.length := by rw [Hinv.out.length, Hn.out]; omega
          have e1 := Hinv.out.zero hjq
          apply List.ext_getElem (by simp)
          intro i h1 h2
          rw [List.getElem_set]
          split
          · rename_i e; subst e; exact e1.symm
          · rfl
        rw [e0]; exact Hown.out.belowTo hb12
      have hB2 : Below w.heap.size w w2 := hB.trans (hb12.mono hB.size)
      have hql : q.length = n := by rw [Hinv.out.length, Hn.out]
      have Hql := Lib.hid hql; clear hql
      have hown1f := hown1.from
      clear k1 hown1 hB1 hb2 hb12
      go_loopw [7] (fun rv wr => DivIn x y n w w.heap.size j d R q rv wr) (fun rv wr => restOf wr rv)
      case atStart => exact ⟨0, _, hr2, (hf2 _ hown1f).mono hB.size, hownq, hB2, by omega, by omega⟩
      case round =>
        obtain ⟨t, R2, hr3, hfr3, hown3, hB3, hv3, ht⟩ := hrel
        have Hv3 := Lib.hid hv3; clear hv3
        clear hr2 hownq hB2 hbs
        have hR2l : (digs 10 R2).length ≤ (digs 10 y).length + 1 := by
          have h1 := digs_length_mono (B := 10) (by decide) (show R2 ≤ d + 10 * R by have := Hv3.out; omega)
          have h2 := digs_length_shift (B := 10) (by decide) hd hRy
          omega
        have hb3 := Hb.out.below (hB3.mono (Nat.le_refl _))
        by_cases hge : y ≤ R2
        · have hcmp := cmpN_ge0 hge
          have Ht := Lib.hid (div_count Hv3.out hge hd hRy)
          go_wp2_with (first | (go_at_call 95; refine (refOrder_any R2 y _ _ _ hr3 hb3).mono ?_; rintro e w4 ⟨rfl, hb4⟩) | (go_at_call 94; refine (refMinus_any R2 y hge _ _ _ (hr3.below hb4) (hb3.below hb4) (by omega)).mono ?_; rintro e w5 ⟨v5, rfl, hr5, hf5, hb5⟩; have k3 := ((hown3.belowTo hb4).belowTo hb5).cell j (by rw [List.length_set, Hql.out]; omega); have k4 := ((hown3.belowTo hb4).belowTo hb5).free j; rw [List.getElem_set_self] at k3))
          have ho5 := (hown3.belowTo hb4).belowTo hb5
          have hB5 : Below w.heap.size w w5 := (hB3.trans (hb4.mono hB3.size)).trans (hb5.mono (Nat.le_trans hB3.size hb4.size))
          have hr6 : Rd encN (w5.setCell ⟨w.heap.size, j, none⟩ (.int .i64 ((t : Int) + 1))) v5 (digs 10 (R2 - y)) := hr5.setCell hf5 (by have := hown3.row.2.2.1; have := hb4.size; simp; omega) _
          go_roundw
          case rel =>
            refine ⟨t + 1, R2 - y, hr6, hf5.mono (Nat.le_trans hB3.size hb4.size), ?_, hB5.setCell (Nat.le_refl _) _, divIn_eq Hv3.out hge, by have := Ht.out; omega⟩
            have h7 := ho5.set j (by rw [List.length_set, Hql.out]; omega) (t + 1) (u := .int .i64 ((t : Int) + 1)) (int_eq (by omega))
            rwa [List.set_set] at h7
          case measure => rw [restOf_eq hr6, restOf_eq hr3]; omega
        · have hcmp := cmpN_lt0 (show R2 < y by omega)
          go_wp2_with (go_at_call 95; refine (refOrder_any R2 y _ _ _ hr3 hb3).mono ?_; rintro e w4 ⟨rfl, hb4⟩)
          go_roundw
          case rel =>
            refine ⟨j, R2, _, by go_num, hr3.below hb4, hfr3, hown3.belowTo hb4, hB3.trans (hb4.mono hB3.size), Hinv.out.step (by rw [Hn.out]; omega) Ed.out Hv3.out (by omega) (by omega), by omega⟩
          case measure => simp [intOf]
end Go.Proofs.YtgeoidnleagloaaGreatDoor
/- Walks of the reference's integer functions: the text of a number. -/
namespace Go.Proofs.YtgeoidnleagloaaGreatDoor
open Go.RowKit Yk

theorem infoByte : (Tryz.prog.info? 5).map (fun i => (i.zero, i.size, i.bytes)) = some (some (.int .u8 0), 1, 1) := by kernel_rfl
/-- 'append(out, c)' onto a []byte of the call's own. -/
theorem appB {w : World} {ops : Array Oper} {rest : List Oper} {o : Oper} {a : Act} {Q : Exit → Act → World → Prop} {B : Nat} {v : Value} {l : List UInt8} (hgd : o.guard = none) (s x : Operand)
    (ho : o.op = .call { callee := .builtin .append, args := #[s, x], argTypes := #[35, 35] }) (hs : a.eval s = v) (hown : OwnL encB 5 w B v l) (b : Nat) (c : Nat) (u : Value)
    (hx : a.eval x = .slice (some ⟨b, 0, none⟩) 1 c) (hc : w.cell? ⟨b, 0, none⟩ = some u) (y : UInt8) (hu : u = encB y) (hlen : l.length + 1 ≤ 1099511627776) (hB : B ≤ w.heap.size)
    (h : ∀ v' w', OwnL encB 5 w' B v' (l ++ [y]) → Below B w w' → wpList Tryz.prog ops Q rest (a.put o.dst v') w') : wpList Tryz.prog ops Q (o :: rest) a w :=
  wpList_app1 hgd s x 35 ho (.int .u8 0) 1 Tryz.underlying35 infoByte rfl encB_one hs hown ⟨b, 0, none⟩ c u hx hc y hu hlen (by decide) hB h
theorem runStr (w : World) {v : Value} {l : List UInt8} (h : Rd encB w v l) : (Go.convert 35 9 v).run Tryz.prog w = .ok (.string ⟨l.toArray⟩) w :=
  run_string w 35 9 5 Tryz.underlying35 Tryz.underlying5 Tryz.underlying9 h

/-- A digit's byte. -/
def chr (d : Nat) : UInt8 := UInt8.ofNat (48 + d)
theorem ofI_sgn {neg : Bool} {x : Nat} (h : x ≠ 0) : ofI (sgn neg x) = ⟨((if neg then [45] else []) ++ ((digs 10 x).reverse.map chr)).toArray⟩ := by
  apply ba_ext
  rw [ofI_list]
  have e : Lib.decDigits x = (digs 10 x).reverse.map chr := by rw [decDigits_digs, if_neg h]; rfl
  cases neg with
  | true => rw [sgn, if_pos rfl, itoa_neg (by omega), show (-(x : Int)).natAbs = x by omega, e]; rfl
  | false => rw [sgn, if_neg (by decide), itoa_pos (by omega), show ((x : Int)).natAbs = x by omega, e]; rfl
theorem chr_step (l : List Nat) (k : Nat) (h : k < l.length) : (l.reverse.take (k + 1)).map chr = (l.reverse.take k).map chr ++ [chr (l[l.length - 1 - k])] := by
  rw [List.take_add_one, List.getElem?_reverse h, List.getElem?_eq_getElem (by omega)]
  simp

set_option maxRecDepth 100000 in
theorem refText_any (neg : Bool) (x : Nat) (v : Value) (w : World) (hv : Rd encN w v (digs 10 x)) (hx : (digs 10 x).length ≤ 1000) :
    Calls Tryz.prog 52 #[.bool neg, v] w fun e w' => e = .returned (.tuple #[.string (ofI (sgn neg x)), .bool (decide (x < BIG))]) ∧ Below w.heap.size w w' := by
  by_cases h0 : x = 0
  · subst h0
    obtain ⟨a, c, rfl, hc, hc2, hcell⟩ := hv.open'
    rw [digs_zero] at hcell hc ⊢
    simp only [List.length_nil] at hcell hc ⊢
    have e1 : ofI (sgn neg 0) = ⟨#[48]⟩ := by cases neg <;> decide +kernel
    have e2 : decide (0 < BIG) = true := by decide +kernel
    rw [e1, e2]
    clear hcell hv hx e1 e2
    go_enter Tryz.func52, Tryz.ntmps52
    go_wp2
    go_ret2
    exact ⟨rfl, Below.refl _ _⟩
  · obtain ⟨a, c, rfl, hc, hc2, hcell⟩ := hv.open'
    have Hc := Lib.hid hcell; clear hcell
    have hnil : digs 10 x ≠ [] := fun e => h0 ((digs_eq_nil (by decide)).1 e)
    have e3 := digs_length_le (B := 10) (by decide) x 200
    obtain ⟨n, hn⟩ : ∃ n, (digs 10 x).length = n := ⟨_, rfl⟩
    have hn0 : 0 < n := by rw [← hn]; exact List.length_pos_iff.2 hnil
    have He : Hid (decide (x < BIG) = decide (n ≤ 200)) := by
      show decide (x < BIG) = decide (n ≤ 200)
      rw [← hn]; unfold BIG; rw [decide_eq_decide]; exact e3.symm
    have Hs := Lib.hid (ofI_sgn (neg := neg) h0)
    have Hn := Lib.hid hn
    rw [hn] at hc hx ⊢
    clear hn e3 hnil h0 hv
    have hc0 : ((n : Int) == 0) = false := by rw [beq_eq_false_iff_ne]; omega
    have key : ∀ (pre : List UInt8) (v0 : Value) (w0 : World) (j : Nat), pre.length ≤ 1 → OwnL encB 5 w0 w.heap.size v0 (pre ++ ((digs 10 x).reverse.take (n - j)).map chr) → (pre ++ ((digs 10 x).reverse.take (n - j)).map chr).length ≤ 2000 := by
      intro pre v0 w0 j h1 h2
      rw [List.length_append, List.length_map, List.length_take]; omega
    have Hkey := Lib.hid key; clear key
    cases neg
    · go_enter Tryz.func52, Tryz.ntmps52
      go_wp2
      go_loopw [6, 7] (fun out i wr => ∃ j : Nat, j ≤ n ∧ i = .int .i64 ((j : Int) - 1) ∧ OwnL encB 5 wr w.heap.size out (([] : List UInt8) ++ ((digs 10 x).reverse.take (n - j)).map chr) ∧ Below w.heap.size w wr) (fun _ i _ => (intOf i + 1).toNat)
      case atStart => exact ⟨n, Nat.le_refl _, rfl, by rw [Nat.sub_self]; exact OwnL.nil _ _, Below.refl _ _⟩
      case round =>
        obtain ⟨j, hj, rfl, hown, hB⟩ := hrel
        have hlen := Hkey.out [] _ _ j (by decide) hown
        cases j with
        | zero =>
          have hcv := runStr wr hown.rd
          rw [Nat.sub_zero, List.take_of_length_le (by rw [List.length_reverse, Hn.out]; exact Nat.le_refl _)] at hcv
          rw [show (⟨(([] : List UInt8) ++ (digs 10 x).reverse.map chr).toArray⟩ : ByteArray) = ofI (sgn false x) from Hs.out.symm] at hcv
          go_wp2
          go_ret2
          exact ⟨ret_pair rfl (by rw [He.out]; exact bool_eq (by omega)), hB⟩
        | succ m =>
          obtain ⟨b, off, rfl, hb, hc1⟩ := Hc.out m (by rw [Hn.out]; omega)
          have k1 := (hB.cell (p := ⟨b, off + m, none⟩) hb).trans hc1
          obtain ⟨d, ed⟩ : ∃ d, (digs 10 x)[m]'(by rw [Hn.out]; omega) = d := ⟨_, rfl⟩
          have hd : d < 10 := by rw [← ed]; exact digs_lt (by decide) x _ (List.getElem_mem _)
          rw [ed] at k1
          have Ed := Lib.hid ed
          clear hc1 ed
          have hbs := hB.size
          go_wp2_with (at_builtin; refine appB rfl _ _ rfl rfl (hown.alloc _) wr.heap.size 1 _ rfl (cell_new1 _ _ _) (chr d) (int_eq (by simp [chr]; omega)) (by omega) (by simp; omega) ?_; intro v' w1 hown1 hB1)
          go_roundw
          case rel =>
            refine ⟨m, by omega, by go_num, ?_, ((hB.alloc hB.size _).trans hB1)⟩
            have e := chr_step (digs 10 x) (n - (m + 1)) (by rw [Hn.out]; omega)
            rw [show n - (m + 1) + 1 = n - m by omega] at e
            rw [e, ← List.append_assoc]
            simpa only [Hn.out, show n - 1 - (n - (m + 1)) = m by omega, Ed.out] using hown1
          case measure => simp [intOf]
    · go_enter Tryz.func52, Tryz.ntmps52
      go_wp2_with (at_builtin; refine appB rfl _ _ rfl rfl ((OwnL.nil w w.heap.size).alloc _) w.heap.size 1 _ rfl (cell_new1 _ _ _) 45 (int_eq (by decide)) (by simp) (by simp) ?_; intro v0 w0 hown0 hB0)
      go_loopw [6, 7] (fun out i wr => ∃ j : Nat, j ≤ n ∧ i = .int .i64 ((j : Int) - 1) ∧ OwnL encB 5 wr w.heap.size out ([45] ++ ((digs 10 x).reverse.take (n - j)).map chr) ∧ Below w.heap.size w wr) (fun _ i _ => (intOf i + 1).toNat)
      case atStart => exact ⟨n, Nat.le_refl _, rfl, by rw [Nat.sub_self]; exact hown0, ((Below.refl _ _).alloc (Nat.le_refl _) _).trans hB0⟩
      case round =>
        obtain ⟨j, hj, rfl, hown, hB⟩ := hrel
        have hlen := Hkey.out [45] _ _ j (by decide) hown
        cases j with
        | zero =>
          have hcv := runStr wr hown.rd
          rw [Nat.sub_zero, List.take_of_length_le (by rw [List.length_reverse, Hn.out]; exact Nat.le_refl _)] at hcv
          rw [show (⟨(([45] : List UInt8) ++ (digs 10 x).reverse.map chr).toArray⟩ : ByteArray) = ofI (sgn true x) from Hs.out.symm] at hcv
          go_wp2
          go_ret2
          exact ⟨ret_pair rfl (by rw [He.out]; exact bool_eq (by omega)), hB⟩
        | succ m =>
          obtain ⟨b, off, rfl, hb, hc1⟩ := Hc.out m (by rw [Hn.out]; omega)
          have k1 := (hB.cell (p := ⟨b, off + m, none⟩) hb).trans hc1
          obtain ⟨d, ed⟩ : ∃ d, (digs 10 x)[m]'(by rw [Hn.out]; omega) = d := ⟨_, rfl⟩
          have hd : d < 10 := by rw [← ed]; exact digs_lt (by decide) x _ (List.getElem_mem _)
          rw [ed] at k1
          have Ed := Lib.hid ed
          clear hc1 ed
          have hbs := hB.size
          go_wp2_with (at_builtin; refine appB rfl _ _ rfl rfl (hown.alloc _) wr.heap.size 1 _ rfl (cell_new1 _ _ _) (chr d) (int_eq (by simp [chr]; omega)) (by omega) (by simp; omega) ?_; intro v' w1 hown1 hB1)
          go_roundw
          case rel =>
            refine ⟨m, by omega, by go_num, ?_, ((hB.alloc hB.size _).trans hB1)⟩
            have e := chr_step (digs 10 x) (n - (m + 1)) (by rw [Hn.out]; omega)
            rw [show n - (m + 1) + 1 = n - m by omega] at e
            rw [e, ← List.append_assoc]
            simpa only [Hn.out, show n - 1 - (n - (m + 1)) = m by omega, Ed.out] using hown1
          case measure => simp [intOf]
end Go.Proofs.YtgeoidnleagloaaGreatDoor
/- Walks of the reference's integer functions: the operations on texts. -/
namespace Go.Proofs.YtgeoidnleagloaaGreatDoor
open Go.RowKit Yk

/-- A text and an error's number, as two results. -/
abbrev vSE (r : SE) : Value := .tuple #[.string r.1, .int .i64 r.2]
theorem chkI_yes {n : Int} (h : n.natAbs < BIG) : chkI n = (ofI n, 0) := by simp [chkI, h]
theorem chkI_no {n : Int} (h : ¬ n.natAbs < BIG) : chkI n = (ByteArray.empty, 30) := by simp [chkI, h]

set_option maxRecDepth 100000 in
theorem refChecked_any (neg : Bool) (x : Nat) (v : Value) (w : World) (hv : Rd encN w v (digs 10 x)) (hx : (digs 10 x).length ≤ 1000) :
    Calls Tryz.prog 55 #[.bool neg, v] w fun e w' => e = .returned (vSE (chkI (sgn neg x))) ∧ Below w.heap.size w w' := by
  by_cases h : x < BIG
  · rw [chkI_yes (by rw [sgn_abs]; exact h)]
    have h2 : decide (x < BIG) = true := by simp [h]
    have Hc := Lib.hid (refText_any neg x v w hv hx)
    rw [h2] at Hc
    clear h h2 hv hx
    go_enter Tryz.func55, Tryz.ntmps55
    go_wp2_with (go_at_call 52; refine Hc.out.mono ?_; rintro e w1 ⟨rfl, hb⟩)
    go_ret2
    exact ⟨rfl, hb⟩
  · rw [chkI_no (by rw [sgn_abs]; exact h)]
    have h2 : decide (x < BIG) = false := by simp [h]
    have Hc := Lib.hid (refText_any neg x v w hv hx)
    rw [h2] at Hc
    clear h h2 hv hx
    go_enter Tryz.func55, Tryz.ntmps55
    go_wp2_with (go_at_call 52; refine Hc.out.mono ?_; rintro e w1 ⟨rfl, hb⟩)
    go_ret2
    exact ⟨rfl, hb⟩

theorem digs_len_of_lt {x k : Nat} (h : x < 10 ^ k) : (digs 10 x).length ≤ k := (digs_length_le (by decide) x k).2 h
theorem sum_len {x y : Nat} (h1 : (digs 10 x).length ≤ 200) (h2 : (digs 10 y).length ≤ 200) : (digs 10 (x + y)).length ≤ 1000 := by
  have h3 := (digs_length_le (B := 10) (by decide) x 200).1 h1
  have h4 := (digs_length_le (B := 10) (by decide) y 200).1 h2
  have h5 := digs_len_of_lt (x := x + y) (k := 201) (by rw [Nat.pow_succ]; omega)
  omega
theorem diff_len {x y : Nat} (h1 : (digs 10 x).length ≤ 200) : (digs 10 (x - y)).length ≤ 1000 := by
  have := digs_length_mono (B := 10) (by decide) (Nat.sub_le x y)
  omega
set_option maxRecDepth 100000 in
theorem refSum_any (x : Bool) (a : Nat) (va : Value) (y : Bool) (b : Nat) (vb : Value) (w : World) (ha : Rd encN w va (digs 10 a)) (hb : Rd encN w vb (digs 10 b)) (hx : (digs 10 a).length ≤ 200) (hy : (digs 10 b).length ≤ 200) :
    Calls Tryz.prog 91 #[.bool x, va, .bool y, vb] w fun e w' => e = .returned (vSE (chkI (sgn x a + sgn y b))) ∧ Below w.heap.size w w' := by
  have same : ∀ z : Bool, x = z → y = z → Calls Tryz.prog 91 #[.bool z, va, .bool z, vb] w fun e w' => e = .returned (vSE (chkI (sgn x a + sgn y b))) ∧ Below w.heap.size w w' := by
    rintro z rfl h
    have e1 : sgn x a + sgn y b = sgn x (a + b) := by rw [h]; cases x <;> simp [sgn] <;> omega
    rw [e1]
    clear h e1
    cases x
    all_goals
      go_enter Tryz.func91, Tryz.ntmps91
      go_wp2_with (first | (go_at_call 93; refine (refPlus_any a b _ _ _ ha hb (by omega) (by omega)).mono ?_; rintro e w1 ⟨v1, rfl, hr1, hf1, hb1⟩) | (go_at_call 55; refine (refChecked_any _ _ _ _ hr1 (sum_len hx hy)).mono ?_; rintro e w2 ⟨rfl, hb2⟩))
      go_ret2
      exact ⟨rfl, hb1.trans (hb2.mono hb1.size)⟩
  have other : ∀ z u : Bool, x = z → y = u → z ≠ u → Calls Tryz.prog 91 #[.bool z, va, .bool u, vb] w fun e w' => e = .returned (vSE (chkI (sgn x a + sgn y b))) ∧ Below w.heap.size w w' := by
    rintro z u rfl rfl hne
    by_cases hge : b ≤ a
    · have e1 : sgn x a + sgn y b = sgn x (a - b) := by cases x <;> cases y <;> simp [sgn] at hne ⊢ <;> omega
      rw [e1]
      have hcmp := cmpN_ge0 hge
      clear e1
      cases x <;> cases y <;> first | exact absurd rfl hne | skip
      all_goals
        clear hne
        go_enter Tryz.func91, Tryz.ntmps91
        go_wp2_with (first | (go_at_call 95; refine (refOrder_any a b _ _ _ ha hb).mono ?_; rintro e w0 ⟨rfl, hb0⟩) | (go_at_call 94; refine (refMinus_any a b hge _ _ _ (ha.below hb0) (hb.below hb0) (by omega)).mono ?_; rintro e w1 ⟨v1, rfl, hr1, hf1, hb1⟩) | (go_at_call 55; refine (refChecked_any _ _ _ _ hr1 (diff_len hx)).mono ?_; rintro e w2 ⟨rfl, hb2⟩))
        go_ret2
        exact ⟨rfl, (hb0.trans (hb1.mono hb0.size)).trans (hb2.mono (Nat.le_trans hb0.size hb1.size))⟩
    · have e1 : sgn x a + sgn y b = sgn y (b - a) := by cases x <;> cases y <;> simp [sgn] at hne ⊢ <;> omega
      rw [e1]
      have hcmp := cmpN_lt0 (show a < b by omega)
      clear e1
      cases x <;> cases y <;> first | exact absurd rfl hne | skip
      all_goals
        clear hne
        go_enter Tryz.func91, Tryz.ntmps91
        go_wp2_with (first | (go_at_call 95; refine (refOrder_any a b _ _ _ ha hb).mono ?_; rintro e w0 ⟨rfl, hb0⟩) | (go_at_call 94; refine (refMinus_any b a (by omega) _ _ _ (hb.below hb0) (ha.below hb0) (by omega)).mono ?_; rintro e w1 ⟨v1, rfl, hr1, hf1, hb1⟩) | (go_at_call 55; refine (refChecked_any _ _ _ _ hr1 (diff_len hy)).mono ?_; rintro e w2 ⟨rfl, hb2⟩))
        go_ret2
        exact ⟨rfl, (hb0.trans (hb1.mono hb0.size)).trans (hb2.mono (Nat.le_trans hb0.size hb1.size))⟩
  by_cases h : x = y
  · have := same x rfl h.symm
    rwa [← h] at this ⊢
  · exact other x y rfl rfl h
end Go.Proofs.YtgeoidnleagloaaGreatDoor
/- Walks of the reference's integer functions: the operations on texts. -/
namespace Go.Proofs.YtgeoidnleagloaaGreatDoor
open Go.RowKit Yk

theorem refDigitsN (s : ByteArray) (w : World) (hs : vld s.data.toList = true) :
    Calls Tryz.prog 54 #[.string s] w fun e w' => ∃ v, e = .returned (.tuple #[.bool (negB s.data.toList), v]) ∧ Rd encN w' v (digs 10 (nS s).natAbs) ∧ From w.heap.size v ∧ Below w.heap.size w w' := refDigits_any s w hs

set_option maxRecDepth 100000 in
theorem refAdd_any (a b : ByteArray) (w : World) (hsa : a.size ≤ maxLen) (hsb : b.size ≤ maxLen) :
    Calls Tryz.prog 64 #[.string a, .string b] w fun e w' => e = .returned (vSE (iAdd a b)) ∧ Below w.heap.size w w' := by
  by_cases ha : vS a = true
  · have hva : vld a.data.toList = true := ha
    by_cases hb : vS b = true
    · have hvb : vld b.data.toList = true := hb
      have e1 : iAdd a b = chkI (sgn (negB a.data.toList) (nS a).natAbs + sgn (negB b.data.toList) (nS b).natAbs) := by
        rw [← nS_sgn, ← nS_sgn]; simp [iAdd, ha, hb]
      rw [e1]
      have hla := digs_len_200 (nS_lt ha)
      have hlb := digs_len_200 (nS_lt hb)
      clear e1 ha hb
      go_enter Tryz.func64, Tryz.ntmps64
      go_wp2_with (first | (go_at_call 53; refine (refValid_any _ _ (by assumption)).mono ?_; rintro e w0 ⟨rfl, rfl⟩) | (go_at_call 54; (with_reducible refine (refDigitsN a _ hva).mono ?_); rintro e w1 ⟨v1, rfl, hr1, hf1, hb1⟩) | (go_at_call 54; (with_reducible refine (refDigitsN b _ hvb).mono ?_); rintro e w2 ⟨v2, rfl, hr2, hf2, hb2⟩) | (go_at_call 91; refine (refSum_any _ _ _ _ _ _ _ (hr1.below hb2) hr2 hla hlb).mono ?_; rintro e w3 ⟨rfl, hb3⟩))
      go_ret2
      exact ⟨rfl, (hb1.trans (hb2.mono hb1.size)).trans (hb3.mono (Nat.le_trans hb1.size hb2.size))⟩
    · have hvb : vld b.data.toList = false := by simpa [vS] using hb
      have e1 : iAdd a b = (ByteArray.empty, 30) := by simp [iAdd, hb]
      rw [e1]
      clear e1 ha hb
      go_enter Tryz.func64, Tryz.ntmps64
      go_wp2_with (go_at_call 53; refine (refValid_any _ _ (by assumption)).mono ?_; rintro e w0 ⟨rfl, rfl⟩)
      go_ret2
      exact ⟨rfl, Below.refl _ _⟩
  · have hva : vld a.data.toList = false := by simpa [vS] using ha
    have e1 : iAdd a b = (ByteArray.empty, 30) := by simp [iAdd, ha]
    rw [e1]
    clear e1 ha
    go_enter Tryz.func64, Tryz.ntmps64
    go_wp2_with (go_at_call 53; refine (refValid_any _ _ (by assumption)).mono ?_; rintro e w0 ⟨rfl, rfl⟩)
    go_ret2
    exact ⟨rfl, Below.refl _ _⟩

theorem sgn_not (x : Bool) (n : Nat) : sgn (!x) n = -sgn x n := by cases x <;> simp [sgn]
set_option maxRecDepth 100000 in
theorem refSub_any (a b : ByteArray) (w : World) (hsa : a.size ≤ maxLen) (hsb : b.size ≤ maxLen) :
    Calls Tryz.prog 65 #[.string a, .string b] w fun e w' => e = .returned (vSE (iSub a b)) ∧ Below w.heap.size w w' := by
  by_cases ha : vS a = true
  · have hva : vld a.data.toList = true := ha
    by_cases hb : vS b = true
    · have hvb : vld b.data.toList = true := hb
      have e1 : iSub a b = chkI (sgn (negB a.data.toList) (nS a).natAbs + sgn (!(negB b.data.toList)) (nS b).natAbs) := by
        rw [sgn_not, ← nS_sgn, ← nS_sgn, ← Int.sub_eq_add_neg]; simp [iSub, ha, hb]
      rw [e1]
      have hla := digs_len_200 (nS_lt ha)
      have hlb := digs_len_200 (nS_lt hb)
      clear e1 ha hb
      go_enter Tryz.func65, Tryz.ntmps65
      go_wp2_with (first | (go_at_call 53; refine (refValid_any _ _ (by assumption)).mono ?_; rintro e w0 ⟨rfl, rfl⟩) | (go_at_call 54; (with_reducible refine (refDigitsN a _ hva).mono ?_); rintro e w1 ⟨v1, rfl, hr1, hf1, hb1⟩) | (go_at_call 54; (with_reducible refine (refDigitsN b _ hvb).mono ?_); rintro e w2 ⟨v2, rfl, hr2, hf2, hb2⟩) | (go_at_call 91; refine (refSum_any _ _ _ _ _ _ _ (hr1.below hb2) hr2 hla hlb).mono ?_; rintro e w3 ⟨rfl, hb3⟩))
      go_ret2
      exact ⟨rfl, (hb1.trans (hb2.mono hb1.size)).trans (hb3.mono (Nat.le_trans hb1.size hb2.size))⟩
    · have hvb : vld b.data.toList = false := by simpa [vS] using hb
      have e1 : iSub a b = (ByteArray.empty, 30) := by simp [iSub, hb]
      rw [e1]
      clear e1 ha hb
      go_enter Tryz.func65, Tryz.ntmps65
      go_wp2_with (go_at_call 53; refine (refValid_any _ _ (by assumption)).mono ?_; rintro e w0 ⟨rfl, rfl⟩)
      go_ret2
      exact ⟨rfl, Below.refl _ _⟩
  · have hva : vld a.data.toList = false := by simpa [vS] using ha
    have e1 : iSub a b = (ByteArray.empty, 30) := by simp [iSub, ha]
    rw [e1]
    clear e1 ha
    go_enter Tryz.func65, Tryz.ntmps65
    go_wp2_with (go_at_call 53; refine (refValid_any _ _ (by assumption)).mono ?_; rintro e w0 ⟨rfl, rfl⟩)
    go_ret2
    exact ⟨rfl, Below.refl _ _⟩

theorem sgn_mul (x y : Bool) (m n : Nat) : sgn (x != y) (m * n) = sgn x m * sgn y n := by cases x <;> cases y <;> simp [sgn, Int.neg_mul, Int.mul_neg]
theorem prod_lt {x y k : Nat} (h3 : x < 10 ^ k) (h4 : y < 10 ^ k) : (digs 10 (x * y)).length ≤ k + k := digs_len_of_lt (by rw [Nat.pow_add]; exact Nat.mul_lt_mul'' h3 h4)
theorem prod_len {x y : Nat} (h1 : (digs 10 x).length ≤ 200) (h2 : (digs 10 y).length ≤ 200) : (digs 10 (x * y)).length ≤ 1000 := by
  have h3 := (digs_length_le (B := 10) (by decide) x 200).1 h1
  have h4 := (digs_length_le (B := 10) (by decide) y 200).1 h2
  have h5 := prod_lt h3 h4
  omega
set_option maxRecDepth 100000 in
theorem refMul_any (a b : ByteArray) (w : World) (hsa : a.size ≤ maxLen) (hsb : b.size ≤ maxLen) :
    Calls Tryz.prog 21 #[.string a, .string b] w fun e w' => e = .returned (vSE (iMul a b)) ∧ Below w.heap.size w w' := by
  by_cases ha : vS a = true
  · have hva : vld a.data.toList = true := ha
    by_cases hb : vS b = true
    · have hvb : vld b.data.toList = true := hb
      have e1 : iMul a b = chkI (sgn ((negB a.data.toList) != (negB b.data.toList)) ((nS a).natAbs * (nS b).natAbs)) := by
        rw [sgn_mul, ← nS_sgn, ← nS_sgn]; simp [iMul, ha, hb]
      rw [e1]
      have hla := digs_len_200 (nS_lt ha)
      have hlb := digs_len_200 (nS_lt hb)
      clear e1 ha hb
      go_enter Tryz.func21, Tryz.ntmps21
      go_wp2_with (first | (go_at_call 53; refine (refValid_any _ _ (by assumption)).mono ?_; rintro e w0 ⟨rfl, rfl⟩) | (go_at_call 54; (with_reducible refine (refDigitsN a _ hva).mono ?_); rintro e w1 ⟨v1, rfl, hr1, hf1, hb1⟩) | (go_at_call 54; (with_reducible refine (refDigitsN b _ hvb).mono ?_); rintro e w2 ⟨v2, rfl, hr2, hf2, hb2⟩) | (go_at_call 56; refine (refTimes_any _ _ _ _ _ (hr1.below hb2) hr2 (by omega) (by omega)).mono ?_; rintro e w3 ⟨v3, rfl, hr3, hf3, hb3⟩) | (go_at_call 55; refine (refChecked_any _ _ _ _ hr3 (prod_len hla hlb)).mono ?_; rintro e w4 ⟨rfl, hb4⟩))
      go_ret2
      exact ⟨rfl, ((hb1.trans (hb2.mono hb1.size)).trans (hb3.mono (Nat.le_trans hb1.size hb2.size))).trans (hb4.mono (Nat.le_trans hb1.size (Nat.le_trans hb2.size hb3.size)))⟩
    · have hvb : vld b.data.toList = false := by simpa [vS] using hb
      have e1 : iMul a b = (ByteArray.empty, 30) := by simp [iMul, hb]
      rw [e1]
      clear e1 ha hb
      go_enter Tryz.func21, Tryz.ntmps21
      go_wp2_with (go_at_call 53; refine (refValid_any _ _ (by assumption)).mono ?_; rintro e w0 ⟨rfl, rfl⟩)
      go_ret2
      exact ⟨rfl, Below.refl _ _⟩
  · have hva : vld a.data.toList = false := by simpa [vS] using ha
    have e1 : iMul a b = (ByteArray.empty, 30) := by simp [iMul, ha]
    rw [e1]
    clear e1 ha
    go_enter Tryz.func21, Tryz.ntmps21
    go_wp2_with (go_at_call 53; refine (refValid_any _ _ (by assumption)).mono ?_; rintro e w0 ⟨rfl, rfl⟩)
    go_ret2
    exact ⟨rfl, Below.refl _ _⟩

end Go.Proofs.YtgeoidnleagloaaGreatDoor
/- Walks of the reference's integer functions: comparison, division, the greatest common divisor. -/
namespace Go.Proofs.YtgeoidnleagloaaGreatDoor
open Go.RowKit Yk

theorem neg_iff {s : ByteArray} (h : vS s = true) : negB s.data.toList = true ↔ nS s < 0 := by
  have h1 := itoa_head (nS s)
  rw [show Lib.itoa (nS s) = s.data.toList from itoa_toI h] at h1
  simpa [negB] using h1
theorem cmp_mixed {x y : Int} (hx : x < 0) (hy : 0 ≤ y) : cmpI x y = -1 ∧ cmpI y x = 1 := by
  unfold cmpI
  constructor
  · rw [if_pos (by omega)]
  · rw [if_neg (by omega), if_pos (by omega)]

set_option maxRecDepth 100000 in
theorem refCompare_truefalse (a b : ByteArray) (w : World) (hva : vld a.data.toList = true) (hvb : vld b.data.toList = true) (hsa : a.size ≤ maxLen) (hsb : b.size ≤ maxLen) (hx : negB a.data.toList = true) (hy : negB b.data.toList = false) :
    Calls Tryz.prog 67 #[.string a, .string b] w fun e w' => e = .returned (.int .i64 (-1)) ∧ Below w.heap.size w w' := by
  have hda := refDigitsN a
  have hdb := refDigitsN b
  rw [hx] at hda
  rw [hy] at hdb
  have Hda := Lib.hid hda
  have Hdb := Lib.hid hdb
  clear hda hdb hx hy
  go_enter Tryz.func67, Tryz.ntmps67
  go_wp2_with (first | (go_at_call 53; refine (refValid_any _ _ (by assumption)).mono ?_; rintro e w0 ⟨rfl, rfl⟩) | (go_at_call 54; (with_reducible refine (Hda.out _ hva).mono ?_); rintro e w1 ⟨v1, rfl, hr1, hf1, hb1⟩) | (go_at_call 54; (with_reducible refine (Hdb.out _ hvb).mono ?_); rintro e w2 ⟨v2, rfl, hr2, hf2, hb2⟩))
  go_ret
  exact ⟨rfl, hb1.trans (hb2.mono hb1.size)⟩
set_option maxRecDepth 100000 in
theorem refCompare_falsetrue (a b : ByteArray) (w : World) (hva : vld a.data.toList = true) (hvb : vld b.data.toList = true) (hsa : a.size ≤ maxLen) (hsb : b.size ≤ maxLen) (hx : negB a.data.toList = false) (hy : negB b.data.toList = true) :
    Calls Tryz.prog 67 #[.string a, .string b] w fun e w' => e = .returned (.int .i64 (1)) ∧ Below w.heap.size w w' := by
  have hda := refDigitsN a
  have hdb := refDigitsN b
  rw [hx] at hda
  rw [hy] at hdb
  have Hda := Lib.hid hda
  have Hdb := Lib.hid hdb
  clear hda hdb hx hy
  go_enter Tryz.func67, Tryz.ntmps67
  go_wp2_with (first | (go_at_call 53; refine (refValid_any _ _ (by assumption)).mono ?_; rintro e w0 ⟨rfl, rfl⟩) | (go_at_call 54; (with_reducible refine (Hda.out _ hva).mono ?_); rintro e w1 ⟨v1, rfl, hr1, hf1, hb1⟩) | (go_at_call 54; (with_reducible refine (Hdb.out _ hvb).mono ?_); rintro e w2 ⟨v2, rfl, hr2, hf2, hb2⟩))
  go_ret
  exact ⟨rfl, hb1.trans (hb2.mono hb1.size)⟩
set_option maxRecDepth 100000 in
theorem refCompare_truetrue (a b : ByteArray) (w : World) (hva : vld a.data.toList = true) (hvb : vld b.data.toList = true) (hsa : a.size ≤ maxLen) (hsb : b.size ≤ maxLen) (hx : negB a.data.toList = true) (hy : negB b.data.toList = true) :
    Calls Tryz.prog 67 #[.string a, .string b] w fun e w' => e = .returned (.int .i64 (cmpN (nS b).natAbs (nS a).natAbs)) ∧ Below w.heap.size w w' := by
  have hda := refDigitsN a
  have hdb := refDigitsN b
  rw [hx] at hda
  rw [hy] at hdb
  have Hda := Lib.hid hda
  have Hdb := Lib.hid hdb
  clear hda hdb hx hy
  go_enter Tryz.func67, Tryz.ntmps67
  go_wp2_with (first | (go_at_call 53; refine (refValid_any _ _ (by assumption)).mono ?_; rintro e w0 ⟨rfl, rfl⟩) | (go_at_call 54; (with_reducible refine (Hda.out _ hva).mono ?_); rintro e w1 ⟨v1, rfl, hr1, hf1, hb1⟩) | (go_at_call 54; (with_reducible refine (Hdb.out _ hvb).mono ?_); rintro e w2 ⟨v2, rfl, hr2, hf2, hb2⟩) | (go_at_call 95; refine (refOrder_any _ _ _ _ _ hr2 (hr1.below hb2)).mono ?_; rintro e w3 ⟨rfl, hb3⟩))
  go_ret
  exact ⟨rfl, (hb1.trans (hb2.mono hb1.size)).trans (hb3.mono (Nat.le_trans hb1.size hb2.size))⟩
set_option maxRecDepth 100000 in
theorem refCompare_falsefalse (a b : ByteArray) (w : World) (hva : vld a.data.toList = true) (hvb : vld b.data.toList = true) (hsa : a.size ≤ maxLen) (hsb : b.size ≤ maxLen) (hx : negB a.data.toList = false) (hy : negB b.data.toList = false) :
    Calls Tryz.prog 67 #[.string a, .string b] w fun e w' => e = .returned (.int .i64 (cmpN (nS a).natAbs (nS b).natAbs)) ∧ Below w.heap.size w w' := by
  have hda := refDigitsN a
  have hdb := refDigitsN b
  rw [hx] at hda
  rw [hy] at hdb
  have Hda := Lib.hid hda
  have Hdb := Lib.hid hdb
  clear hda hdb hx hy
  go_enter Tryz.func67, Tryz.ntmps67
  go_wp2_with (first | (go_at_call 53; refine (refValid_any _ _ (by assumption)).mono ?_; rintro e w0 ⟨rfl, rfl⟩) | (go_at_call 54; (with_reducible refine (Hda.out _ hva).mono ?_); rintro e w1 ⟨v1, rfl, hr1, hf1, hb1⟩) | (go_at_call 54; (with_reducible refine (Hdb.out _ hvb).mono ?_); rintro e w2 ⟨v2, rfl, hr2, hf2, hb2⟩) | (go_at_call 95; refine (refOrder_any _ _ _ _ _ (hr1.below hb2) hr2).mono ?_; rintro e w3 ⟨rfl, hb3⟩))
  go_ret
  exact ⟨rfl, (hb1.trans (hb2.mono hb1.size)).trans (hb3.mono (Nat.le_trans hb1.size hb2.size))⟩
set_option maxRecDepth 100000 in
theorem refCompare_any (a b : ByteArray) (w : World) (hsa : a.size ≤ maxLen) (hsb : b.size ≤ maxLen) :
    Calls Tryz.prog 67 #[.string a, .string b] w fun e w' => e = .returned (.int .i64 (iCmp a b)) ∧ Below w.heap.size w w' := by
  by_cases ha : vS a = true
  · have hva : vld a.data.toList = true := ha
    by_cases hb : vS b = true
    · have hvb : vld b.data.toList = true := hb
      have e1 : iCmp a b = cmpI (nS a) (nS b) := by simp [iCmp, ha, hb]
      rw [e1]
      have hna := neg_iff ha
      have hnb := neg_iff hb
      have e2 : ∃ r, cmpI (nS a) (nS b) = r ∧ (negB a.data.toList = true → negB b.data.toList = false → r = -1) ∧ (negB a.data.toList = false → negB b.data.toList = true → r = 1) ∧
          (negB a.data.toList = true → negB b.data.toList = true → r = cmpN (nS b).natAbs (nS a).natAbs) ∧ (negB a.data.toList = false → negB b.data.toList = false → r = cmpN (nS a).natAbs (nS b).natAbs) := by
        refine ⟨_, rfl, ?_, ?_, ?_, ?_⟩
        · intro h1 h2
          have : ¬ nS b < 0 := fun h => by rw [hnb.2 h] at h2; cases h2
          exact (cmp_mixed (hna.1 h1) (by omega)).1
        · intro h1 h2
          have : ¬ nS a < 0 := fun h => by rw [hna.2 h] at h1; cases h1
          exact (cmp_mixed (hnb.1 h2) (by omega)).2
        · intro h1 h2
          rw [← cmp_sgn_neg]
          have := hna.1 h1; have := hnb.1 h2
          congr 1 <;> omega
        · intro h1 h2
          have : ¬ nS b < 0 := fun h => by rw [hnb.2 h] at h2; cases h2
          have : ¬ nS a < 0 := fun h => by rw [hna.2 h] at h1; cases h1
          rw [← cmp_sgn_pos]
          congr 1 <;> omega
      obtain ⟨r, hr, g1, g2, g3, g4⟩ := e2
      rw [hr]
      clear e1 ha hb hr hna hnb
      cases hx : negB a.data.toList <;> cases hy : negB b.data.toList
      · rw [g4 hx hy]; exact refCompare_falsefalse a b w hva hvb hsa hsb hx hy
      · rw [g2 hx hy]; exact refCompare_falsetrue a b w hva hvb hsa hsb hx hy
      · rw [g1 hx hy]; exact refCompare_truefalse a b w hva hvb hsa hsb hx hy
      · rw [g3 hx hy]; exact refCompare_truetrue a b w hva hvb hsa hsb hx hy
    · have hvb : vld b.data.toList = false := by simpa [vS] using hb
      have e1 : iCmp a b = 0 := by simp [iCmp, hb]
      rw [e1]
      clear e1 ha hb
      go_enter Tryz.func67, Tryz.ntmps67
      go_wp2_with (go_at_call 53; refine (refValid_any _ _ (by assumption)).mono ?_; rintro e w0 ⟨rfl, rfl⟩)
      go_ret
      exact ⟨rfl, Below.refl _ _⟩
  · have hva : vld a.data.toList = false := by simpa [vS] using ha
    have e1 : iCmp a b = 0 := by simp [iCmp, ha]
    rw [e1]
    clear e1 ha
    go_enter Tryz.func67, Tryz.ntmps67
    go_wp2_with (go_at_call 53; refine (refValid_any _ _ (by assumption)).mono ?_; rintro e w0 ⟨rfl, rfl⟩)
    go_ret
    exact ⟨rfl, Below.refl _ _⟩
end Go.Proofs.YtgeoidnleagloaaGreatDoor
/- Walks of the reference's integer functions: division, the greatest common divisor. -/
namespace Go.Proofs.YtgeoidnleagloaaGreatDoor
open Go.RowKit Yk

theorem refDivided2 (x y : Nat) (hy0 : 0 < y) (va vb : Value) (w : World) (ha : Rd encN w va (digs 10 x)) (hb : Rd encN w vb (digs 10 y)) (hx : (digs 10 x).length ≤ 900) (hy : (digs 10 y).length ≤ 900) :
    Calls Tryz.prog 92 #[va, vb] w fun e w' => ∃ v1 a2 c2, e = .returned (.tuple #[v1, .slice a2 (digs 10 (x % y)).length c2]) ∧ Rd encN w' v1 (digs 10 (x / y)) ∧ Rd encN w' (.slice a2 (digs 10 (x % y)).length c2) (digs 10 (x % y)) ∧ Below w.heap.size w w' := by
  refine (refDivided_any x y hy0 va vb w ha hb hx hy).mono ?_
  rintro e w' ⟨v1, v2, rfl, h1, h2, _, _, h3⟩
  obtain ⟨a, c, rfl, _⟩ := h2.open'
  exact ⟨v1, a, c, rfl, h1, h2, h3⟩
theorem digs_one : digs 10 1 = [1] := digs_digit (by decide) (by decide) (by decide)
theorem zero_text {b : ByteArray} (h : vS b = true) : (b.toList == [48]) = decide (nS b = 0) := by
  rw [ba_toList]
  by_cases h0 : nS b = 0
  · have : b.data.toList = [48] := by
      have := itoa_toI h
      rw [show toI b.data.toList = 0 from h0] at this
      rw [← this]; decide +kernel
    simp [this, h0]
  · have : b.data.toList ≠ [48] := by
      intro e
      apply h0
      unfold nS; rw [e]; decide
    simp [this, h0]
theorem quo_small {x y : Nat} (hx : x < BIG) : x / y < BIG := Nat.lt_of_le_of_lt (Nat.div_le_self x y) hx
theorem quo_succ_small {x y : Nat} (hx : x < BIG) (hr : x % y ≠ 0) : x / y + 1 < BIG := by
  have h1 := zero_lt_BIG
  have h2 := Nat.div_add_mod x y
  have h3 := Nat.div_le_self x y
  have h6 := one_lt_BIG
  generalize BIG = K at *
  by_cases h4 : x / y = 0
  · omega
  · by_cases h5 : y ≤ 1
    · have : x % y = 0 ∨ y = 0 := by
        rcases (show y = 0 ∨ y = 1 by omega) with rfl | rfl
        · exact .inr rfl
        · exact .inl (Nat.mod_one x)
      rcases this with h | rfl
      · exact absurd h hr
      · simp at h4
    · have : 2 * (x / y) ≤ y * (x / y) := Nat.mul_le_mul_right _ (by omega)
      omega
set_option maxRecDepth 100000 in
set_option maxHeartbeats 400000 in
theorem refDiv_falseany (a b : ByteArray) (w : World) (ha : vS a = true) (hb : vS b = true) (hb0 : nS b ≠ 0) (hx : negB a.data.toList = false) :
    Calls Tryz.prog 66 #[.string a, .string b] w fun e w' => e = .returned (.tuple #[.string (ofI (sgn (negB b.data.toList) ((nS a).natAbs / (nS b).natAbs))), .string (ofI ((((nS a).natAbs % (nS b).natAbs : Nat) : Int))), .int .i64 0]) ∧ Below w.heap.size w w' := by
  have hn0 : 0 < (nS b).natAbs := by omega
  have hva : vld a.data.toList = true := ha
  have hvb : vld b.data.toList = true := hb
  have hsa : a.size ≤ maxLen := Nat.le_trans (vS_size ha) (by decide)
  have hsb : b.size ≤ maxLen := Nat.le_trans (vS_size hb) (by decide)
  have hla := digs_len_200 (nS_lt ha)
  have hlb := digs_len_200 (nS_lt hb)
  have hz : (b.toList == [48]) = false := by rw [zero_text hb]; simp [hb0]
  have hlr := digs_length_mono (B := 10) (by decide) (Nat.le_of_lt (Nat.mod_lt (nS a).natAbs hn0))
  have hmn := Nat.mod_lt (nS a).natAbs hn0
  have hlr2 := digs_length_mono (B := 10) (by decide) (show ((nS a).natAbs % (nS b).natAbs) ≤ (nS b).natAbs by omega)
  have hlq := digs_length_mono (B := 10) (by decide) (Nat.div_le_self (nS a).natAbs (nS b).natAbs)
  have hlq2 := digs_len_200 (quo_small (y := (nS b).natAbs) (nS_lt ha))
  have HQ := Lib.hid (chkI_yes (n := sgn (negB b.data.toList) ((nS a).natAbs / (nS b).natAbs)) (by rw [sgn_abs]; exact (quo_small (nS_lt ha))))
  have hda := refDigitsN a
  rw [hx] at hda
  have Hda := Lib.hid hda
  have Hmn := Lib.hid hmn
  clear hda hx ha hb hb0
  go_enter Tryz.func66, Tryz.ntmps66
  go_wp2_with (first
    | (go_at_call 53; refine (refValid_any _ _ (by assumption)).mono ?_; rintro e w0 ⟨rfl, rfl⟩)
    | (go_at_call 54; (with_reducible refine (Hda.out _ hva).mono ?_); rintro e w1 ⟨v1, rfl, hr1, hf1, hb1⟩)
    | (go_at_call 54; (with_reducible refine (refDigitsN b _ hvb).mono ?_); rintro e w2 ⟨v2, rfl, hr2, hf2, hb2⟩)
    | (go_at_call 92; refine (refDivided2 _ _ hn0 _ _ _ (hr1.below hb2) hr2 (by omega) (by omega)).mono ?_; rintro e w3 ⟨v3, a3, c3, rfl, hq3, hr3, hb3⟩)
    | (go_at_call 55; refine (refChecked_any _ _ _ _ hq3 (by omega)).mono ?_; rw [HQ.out]; rintro e w6 ⟨rfl, hb6⟩)
    | (go_at_call 52; refine (refText_any false _ _ _ (hr3.below hb6) (by omega)).mono ?_; rintro e w7 ⟨rfl, hb7⟩))
  go_ret3
  have s1 := hb1.size; have s2 := hb2.size; have s3 := hb3.size; have s6 := hb6.size
  exact ⟨rfl, ((((hb1.trans (hb2.mono hb1.size)).trans (hb3.mono (by omega))).trans (hb6.mono (by omega))).trans (hb7.mono (by omega)))⟩
set_option maxRecDepth 100000 in
set_option maxHeartbeats 400000 in
theorem refDiv_truezero (a b : ByteArray) (w : World) (ha : vS a = true) (hb : vS b = true) (hb0 : nS b ≠ 0) (hx : negB a.data.toList = true) (hr0 : (nS a).natAbs % (nS b).natAbs = 0) :
    Calls Tryz.prog 66 #[.string a, .string b] w fun e w' => e = .returned (.tuple #[.string (ofI (sgn (!negB b.data.toList) ((nS a).natAbs / (nS b).natAbs))), .string (ofI ((((nS a).natAbs % (nS b).natAbs : Nat) : Int))), .int .i64 0]) ∧ Below w.heap.size w w' := by
  have hn0 : 0 < (nS b).natAbs := by omega
  have hva : vld a.data.toList = true := ha
  have hvb : vld b.data.toList = true := hb
  have hsa : a.size ≤ maxLen := Nat.le_trans (vS_size ha) (by decide)
  have hsb : b.size ≤ maxLen := Nat.le_trans (vS_size hb) (by decide)
  have hla := digs_len_200 (nS_lt ha)
  have hlb := digs_len_200 (nS_lt hb)
  have hz : (b.toList == [48]) = false := by rw [zero_text hb]; simp [hb0]
  have hlr := digs_length_mono (B := 10) (by decide) (Nat.le_of_lt (Nat.mod_lt (nS a).natAbs hn0))
  have hmn := Nat.mod_lt (nS a).natAbs hn0
  have hlr2 := digs_length_mono (B := 10) (by decide) (show ((nS a).natAbs % (nS b).natAbs) ≤ (nS b).natAbs by omega)
  have hlq := digs_length_mono (B := 10) (by decide) (Nat.div_le_self (nS a).natAbs (nS b).natAbs)
  have hlq2 := digs_len_200 (quo_small (y := (nS b).natAbs) (nS_lt ha))
  have HQ := Lib.hid (chkI_yes (n := sgn (!negB b.data.toList) ((nS a).natAbs / (nS b).natAbs)) (by rw [sgn_abs]; exact (quo_small (nS_lt ha))))
  have hl0 : (digs 10 ((nS a).natAbs % (nS b).natAbs)).length ≤ 0 := by rw [hr0, digs_zero]; simp
  have hda := refDigitsN a
  rw [hx] at hda
  have Hda := Lib.hid hda
  have Hmn := Lib.hid hmn
  clear hda hx ha hb hb0 hr0
  go_enter Tryz.func66, Tryz.ntmps66
  go_wp2_with (first
    | (go_at_call 53; refine (refValid_any _ _ (by assumption)).mono ?_; rintro e w0 ⟨rfl, rfl⟩)
    | (go_at_call 54; (with_reducible refine (Hda.out _ hva).mono ?_); rintro e w1 ⟨v1, rfl, hr1, hf1, hb1⟩)
    | (go_at_call 54; (with_reducible refine (refDigitsN b _ hvb).mono ?_); rintro e w2 ⟨v2, rfl, hr2, hf2, hb2⟩)
    | (go_at_call 92; refine (refDivided2 _ _ hn0 _ _ _ (hr1.below hb2) hr2 (by omega) (by omega)).mono ?_; rintro e w3 ⟨v3, a3, c3, rfl, hq3, hr3, hb3⟩)
    | (go_at_call 55; refine (refChecked_any _ _ _ _ hq3 (by omega)).mono ?_; rw [HQ.out]; rintro e w6 ⟨rfl, hb6⟩)
    | (go_at_call 52; refine (refText_any false _ _ _ (hr3.below hb6) (by omega)).mono ?_; rintro e w7 ⟨rfl, hb7⟩))
  go_ret3
  have s1 := hb1.size; have s2 := hb2.size; have s3 := hb3.size; have s6 := hb6.size
  exact ⟨rfl, ((((hb1.trans (hb2.mono hb1.size)).trans (hb3.mono (by omega))).trans (hb6.mono (by omega))).trans (hb7.mono (by omega)))⟩
set_option maxRecDepth 100000 in
set_option maxHeartbeats 400000 in
theorem refDiv_truepos (a b : ByteArray) (w : World) (ha : vS a = true) (hb : vS b = true) (hb0 : nS b ≠ 0) (hx : negB a.data.toList = true) (hr0 : (nS a).natAbs % (nS b).natAbs ≠ 0) :
    Calls Tryz.prog 66 #[.string a, .string b] w fun e w' => e = .returned (.tuple #[.string (ofI (sgn (!negB b.data.toList) ((nS a).natAbs / (nS b).natAbs + 1))), .string (ofI ((((nS b).natAbs - (nS a).natAbs % (nS b).natAbs : Nat) : Int))), .int .i64 0]) ∧ Below w.heap.size w w' := by
  have hn0 : 0 < (nS b).natAbs := by omega
  have hva : vld a.data.toList = true := ha
  have hvb : vld b.data.toList = true := hb
  have hsa : a.size ≤ maxLen := Nat.le_trans (vS_size ha) (by decide)
  have hsb : b.size ≤ maxLen := Nat.le_trans (vS_size hb) (by decide)
  have hla := digs_len_200 (nS_lt ha)
  have hlb := digs_len_200 (nS_lt hb)
  have hz : (b.toList == [48]) = false := by rw [zero_text hb]; simp [hb0]
  have hlr := digs_length_mono (B := 10) (by decide) (Nat.le_of_lt (Nat.mod_lt (nS a).natAbs hn0))
  have hmn := Nat.mod_lt (nS a).natAbs hn0
  have hlr2 := digs_length_mono (B := 10) (by decide) (show ((nS b).natAbs - (nS a).natAbs % (nS b).natAbs) ≤ (nS b).natAbs by omega)
  have hlq := digs_length_mono (B := 10) (by decide) (Nat.div_le_self (nS a).natAbs (nS b).natAbs)
  have hlq2 := digs_len_200 (quo_succ_small (nS_lt ha) hr0)
  have HQ := Lib.hid (chkI_yes (n := sgn (!negB b.data.toList) ((nS a).natAbs / (nS b).natAbs + 1)) (by rw [sgn_abs]; exact (quo_succ_small (nS_lt ha) hr0)))
  have hl0 : 0 < (digs 10 ((nS a).natAbs % (nS b).natAbs)).length := List.length_pos_iff.2 (fun e => hr0 ((digs_eq_nil (by decide)).1 e))
  have hda := refDigitsN a
  rw [hx] at hda
  have Hda := Lib.hid hda
  have Hmn := Lib.hid hmn
  clear hda hx ha hb hb0 hr0
  go_enter Tryz.func66, Tryz.ntmps66
  go_wp2_with (first
    | (go_at_call 53; refine (refValid_any _ _ (by assumption)).mono ?_; rintro e w0 ⟨rfl, rfl⟩)
    | (go_at_call 54; (with_reducible refine (Hda.out _ hva).mono ?_); rintro e w1 ⟨v1, rfl, hr1, hf1, hb1⟩)
    | (go_at_call 54; (with_reducible refine (refDigitsN b _ hvb).mono ?_); rintro e w2 ⟨v2, rfl, hr2, hf2, hb2⟩)
    | (go_at_call 92; refine (refDivided2 _ _ hn0 _ _ _ (hr1.below hb2) hr2 (by omega) (by omega)).mono ?_; rintro e w3 ⟨v3, a3, c3, rfl, hq3, hr3, hb3⟩)
    | (go_at_call 93; refine (refPlus_any _ 1 _ _ _ (hq3.below ((Below.refl _ _).alloc (Nat.le_refl _) _)) (by rw [digs_one]; exact (OwnL.lit1 (e := 3) w3 1 rfl).rd) (by omega) (by rw [digs_one]; decide)).mono ?_; rintro e w4 ⟨v4, rfl, hq4, hf4, hb4⟩; have hb34 : Below w3.heap.size w3 w4 := ((Below.refl _ _).alloc (Nat.le_refl _) _).trans (hb4.mono (by simp)))
    | (go_at_call 94; refine (refMinus_any _ _ (by omega) _ _ _ ((hr2.below hb3).below hb34) (hr3.below hb34) (by omega)).mono ?_; rintro e w5 ⟨v5, rfl, hr5, hf5, hb5⟩)
    | (go_at_call 55; refine (refChecked_any _ _ _ _ (hq4.below hb5) (by omega)).mono ?_; rw [HQ.out]; rintro e w6 ⟨rfl, hb6⟩)
    | (go_at_call 52; refine (refText_any false _ _ _ (hr5.below hb6) (by omega)).mono ?_; rintro e w7 ⟨rfl, hb7⟩))
  go_ret3
  have s1 := hb1.size; have s2 := hb2.size; have s3 := hb3.size; have s4 := hb34.size; have s5 := hb5.size; have s6 := hb6.size
  exact ⟨rfl, ((((((hb1.trans (hb2.mono hb1.size)).trans (hb3.mono (by omega))).trans (hb34.mono (by omega))).trans (hb5.mono (by omega))).trans (hb6.mono (by omega))).trans (hb7.mono (by omega)))⟩
end Go.Proofs.YtgeoidnleagloaaGreatDoor
/- Walks of the reference's integer functions: division whole, the greatest common divisor, machine integers. -/
namespace Go.Proofs.YtgeoidnleagloaaGreatDoor
open Go.RowKit Yk

/-- Three results of a division. -/
abbrev vDiv (r : ByteArray × ByteArray × Int) : Value := .tuple #[.string r.1, .string r.2.1, .int .i64 r.2.2]
theorem iDiv_no {a b : ByteArray} (h : vS a = false ∨ vS b = false ∨ nS b = 0) : iDiv a b = (ByteArray.empty, ByteArray.empty, 30) := by
  unfold iDiv
  rcases h with h | h | h <;> simp [h]
theorem iDiv_yes {a b : ByteArray} (ha : vS a = true) (hb : vS b = true) (h : nS b ≠ 0) : iDiv a b = (ofI (nS a / nS b), ofI (nS a % nS b), 0) := by simp [iDiv, ha, hb, h]

set_option maxRecDepth 100000 in
theorem refDiv_any (a b : ByteArray) (w : World) (hsa : a.size ≤ maxLen) (hsb : b.size ≤ maxLen) :
    Calls Tryz.prog 66 #[.string a, .string b] w fun e w' => e = .returned (vDiv (iDiv a b)) ∧ Below w.heap.size w w' := by
  by_cases ha : vS a = true
  · by_cases hb : vS b = true
    · by_cases h0 : nS b = 0
      · rw [iDiv_no (.inr (.inr h0))]
        have hva : vld a.data.toList = true := ha
        have hvb : vld b.data.toList = true := hb
        have hz : (b.toList == [48]) = true := by rw [zero_text hb]; simp [h0]
        clear ha hb h0
        go_enter Tryz.func66, Tryz.ntmps66
        go_wp2_with (go_at_call 53; refine (refValid_any _ _ (by assumption)).mono ?_; rintro e w0 ⟨rfl, rfl⟩)
        go_ret3
        exact ⟨rfl, Below.refl _ _⟩
      · rw [iDiv_yes ha hb h0]
        have hn0 : 0 < (nS b).natAbs := by omega
        have eb := nS_sgn b
        have ea := nS_sgn a
        cases hx : negB a.data.toList
        · rw [hx] at ea
          have h := div_sizes_pos (nS a).natAbs (negB b.data.toList) (nS b).natAbs
          rw [← eb, show ((nS a).natAbs : Int) = nS a by rw [ea]; simp [sgn]] at h
          rw [h.1, h.2]
          exact refDiv_falseany a b w ha hb h0 hx
        · rw [hx] at ea
          have h := div_sizes_neg (x := (nS a).natAbs) hn0 (negB b.data.toList)
          rw [← eb, show -((nS a).natAbs : Int) = nS a by rw [ea]; simp [sgn]] at h
          rw [h.1, h.2]
          by_cases hr : (nS a).natAbs % (nS b).natAbs = 0
          · have := refDiv_truezero a b w ha hb h0 hx hr
            rw [hr] at this
            rw [if_pos hr, if_pos hr]
            exact this
          · rw [if_neg hr, if_neg hr]
            exact refDiv_truepos a b w ha hb h0 hx hr
    · rw [iDiv_no (.inr (.inl (by simpa using hb)))]
      have hva : vld a.data.toList = true := ha
      have hvb : vld b.data.toList = false := by simpa [vS] using hb
      clear ha hb
      go_enter Tryz.func66, Tryz.ntmps66
      go_wp2_with (go_at_call 53; refine (refValid_any _ _ (by assumption)).mono ?_; rintro e w0 ⟨rfl, rfl⟩)
      go_ret3
      exact ⟨rfl, Below.refl _ _⟩
  · rw [iDiv_no (.inl (by simpa using ha))]
    have hva : vld a.data.toList = false := by simpa [vS] using ha
    clear ha
    go_enter Tryz.func66, Tryz.ntmps66
    go_wp2_with (go_at_call 53; refine (refValid_any _ _ (by assumption)).mono ?_; rintro e w0 ⟨rfl, rfl⟩)
    go_ret3
    exact ⟨rfl, Below.refl _ _⟩

/-- What a round of 'Gcd' keeps. -/
def GcdRel (g : Nat) (w : World) (kv lv : Value) (wr : World) : Prop :=
  ∃ (x y : Nat) (a : Option Addr) (c : Nat), lv = .slice a (digs 10 y).length c ∧ Rd encN wr kv (digs 10 x) ∧ Rd encN wr lv (digs 10 y) ∧ Below w.heap.size w wr ∧ Nat.gcd x y = g ∧ (digs 10 x).length ≤ 200 ∧ (digs 10 y).length ≤ 200
theorem gcd_lt_BIG {x y : Nat} (hx : x < BIG) (hy : y < BIG) : Nat.gcd x y < BIG := by
  by_cases h : x = 0
  · subst h; simpa using hy
  · exact Nat.lt_of_le_of_lt (Nat.gcd_le_left y (by omega)) hx
theorem iGcd_yes {a b : ByteArray} (ha : vS a = true) (hb : vS b = true) : iGcd a b = (ofI (sgn false (Nat.gcd (nS a).natAbs (nS b).natAbs)), 0) := by simp [iGcd, ha, hb, sgn, Int.gcd]
theorem iGcd_no {a b : ByteArray} (h : vS a = false ∨ vS b = false) : iGcd a b = (ByteArray.empty, 30) := by
  unfold iGcd
  rcases h with h | h <;> simp [h]

set_option maxRecDepth 100000 in
theorem refGcd_any (a b : ByteArray) (w : World) (hsa : a.size ≤ maxLen) (hsb : b.size ≤ maxLen) :
    Calls Tryz.prog 71 #[.string a, .string b] w fun e w' => e = .returned (vSE (iGcd a b)) ∧ Below w.heap.size w w' := by
  by_cases ha : vS a = true
  · by_cases hb : vS b = true
    · rw [iGcd_yes ha hb]
      have hva : vld a.data.toList = true := ha
      have hvb : vld b.data.toList = true := hb
      have hla := digs_len_200 (nS_lt ha)
      have hlb := digs_len_200 (nS_lt hb)
      have HG := Lib.hid (gcd_lt_BIG (nS_lt ha) (nS_lt hb))
      clear ha hb
      obtain ⟨g, hg⟩ : ∃ g, Nat.gcd (nS a).natAbs (nS b).natAbs = g := ⟨_, rfl⟩
      rw [hg] at HG ⊢
      have Hg := Lib.hid hg; clear hg
      go_enter Tryz.func71, Tryz.ntmps71
      go_wp2_with (first
        | (go_at_call 53; refine (refValid_any _ _ (by assumption)).mono ?_; rintro e w0 ⟨rfl, rfl⟩)
        | (go_at_call 54; (with_reducible refine (refDigitsN a _ hva).mono ?_); rintro e w1 ⟨v1, rfl, hr1, hf1, hb1⟩)
        | (go_at_call 54; (with_reducible refine (refDigitsN b _ hvb).mono ?_); rintro e w2 ⟨v2, rfl, hr2, hf2, hb2⟩))
      go_loopw [7, 9] (fun kv lv wr => GcdRel g w kv lv wr) (fun _ lv wr => restOf wr lv)
      case atStart =>
        obtain ⟨a2, c2, e2, _⟩ := hr2.open'
        exact ⟨_, _, a2, c2, e2, hr1.below hb2, hr2, hb1.trans (hb2.mono hb1.size), Hg.out, hla, hlb⟩
      case round =>
        obtain ⟨x, y, ad, cp, rfl, hrx, hry, hB, hgg, hlx, hly⟩ := hrel
        have Hgg := Lib.hid hgg; clear hgg
        clear hr1 hr2 hf1 hf2 hb1 hb2
        by_cases hy0 : y = 0
        · subst hy0
          have hl0 : (digs 10 0).length ≤ 0 := by rw [digs_zero]; simp
          have e1 : g = x := by rw [← Hgg.out]; simp
          subst e1
          have HQ := Lib.hid (chkI_yes (n := sgn false g) (by rw [sgn_abs]; exact HG.out))
          go_wp2_with (go_at_call 55; refine (refChecked_any false _ _ _ hrx (by omega)).mono ?_; rw [HQ.out]; rintro e w6 ⟨rfl, hb6⟩)
          go_ret2
          exact ⟨rfl, hB.trans (hb6.mono hB.size)⟩
        · have hl0 : 0 < (digs 10 y).length := List.length_pos_iff.2 (fun e => hy0 ((digs_eq_nil (by decide)).1 e))
          go_wp2_with (go_at_call 92; refine (refDivided2 x y (by omega) _ _ _ hrx hry (by omega) (by omega)).mono ?_; rintro e w3 ⟨v3, a3, c3, rfl, hq3, hr3, hb3⟩)
          go_roundw
          case rel => exact ⟨y, x % y, _, _, rfl, hry.below hb3, hr3, hB.trans (hb3.mono hB.size), by rw [← Hgg.out, Nat.gcd_comm x y, Nat.gcd_rec y x, Nat.gcd_comm], hly, Nat.le_trans (digs_length_mono (by decide) (Nat.le_of_lt (Nat.mod_lt x (by omega)))) hly⟩
          case measure => rw [restOf_eq hr3, restOf_eq hry]; exact Nat.mod_lt x (by omega)
    · rw [iGcd_no (.inr (by simpa using hb))]
      have hva : vld a.data.toList = true := ha
      have hvb : vld b.data.toList = false := by simpa [vS] using hb
      clear ha hb
      go_enter Tryz.func71, Tryz.ntmps71
      go_wp2_with (go_at_call 53; refine (refValid_any _ _ (by assumption)).mono ?_; rintro e w0 ⟨rfl, rfl⟩)
      go_ret2
      exact ⟨rfl, Below.refl _ _⟩
  · rw [iGcd_no (.inl (by simpa using ha))]
    have hva : vld a.data.toList = false := by simpa [vS] using ha
    clear ha
    go_enter Tryz.func71, Tryz.ntmps71
    go_wp2_with (go_at_call 53; refine (refValid_any _ _ (by assumption)).mono ?_; rintro e w0 ⟨rfl, rfl⟩)
    go_ret2
    exact ⟨rfl, Below.refl _ _⟩

/-- What a round of 'FromInt' keeps. -/
def FromRel (n : Nat) (neg : Bool) (w : World) (out mv : Value) (wr : World) : Prop :=
  ∃ (m : Nat) (l : List Nat), mv = .int .i64 (sgn neg m) ∧ OwnL encN 3 wr w.heap.size out l ∧ Below w.heap.size w wr ∧ l ++ digs 10 m = digs 10 n ∧ m ≤ n
theorem fromRel_step {n m : Nat} {l : List Nat} (h : l ++ digs 10 m = digs 10 n) (h0 : m ≠ 0) : (l ++ [m % 10]) ++ digs 10 (m / 10) = digs 10 n := by
  rw [List.append_assoc, ← h, digs_pos (n := m) (by decide) h0]; rfl
theorem fromRel_len {n m : Nat} {l : List Nat} (h : l ++ digs 10 m = digs 10 n) (hn : (digs 10 n).length ≤ 20) : l.length ≤ 20 := by
  have := congrArg List.length h
  rw [List.length_append] at this; omega

set_option maxRecDepth 100000 in
theorem refFromInt_pos (n : Nat) (w : World) (h2 : n ≤ 9223372036854775807) :
    Calls Tryz.prog 20 #[.int .i64 (n : Int)] w fun e w' => e = .returned (.string (ofI n)) ∧ Below w.heap.size w w' := by
  have hln : (digs 10 n).length ≤ 20 := digs_len_of_lt (by omega)
  have hB0 := zero_lt_BIG
  go_enter Tryz.func20, Tryz.ntmps20
  go_wp2
  go_loopw [3, 4] (fun out mv wr => FromRel n false w out mv wr) (fun _ mv _ => (intOf mv).natAbs)
  case atStart => exact ⟨n, [], rfl, OwnL.nil _ _, Below.refl _ _, rfl, Nat.le_refl _⟩
  case round =>
    obtain ⟨m, l, rfl, hown, hB, hl, hmn⟩ := hrel
    have Hl := Lib.hid hl; clear hl
    have hll := fromRel_len Hl.out hln
    have hbs := hB.size
    rw [show sgn false m = (m : Int) from rfl]
    by_cases h0 : m = 0
    · subst h0
      have e1 := Hl.out
      rw [digs_zero, List.append_nil] at e1
      subst e1
      go_wp2_with (go_at_call 52; refine (refText_any false n _ _ hown.rd (by omega)).mono ?_; rintro e w6 ⟨rfl, hb6⟩)
      go_ret
      exact ⟨rfl, hB.trans (hb6.mono hB.size)⟩
    · have c1 : ((m : Int) != 0) = true := by rw [bne_iff_ne]; omega
      go_wp2_with (at_builtin; refine appN rfl _ _ rfl rfl (hown.alloc _) wr.heap.size 1 _ rfl (cell_new1 _ _ _) (m % 10) (int_eq (by omega)) (by omega) (by simp; omega) ?_; intro v' w1 hown1 hB1)
      go_roundw
      case rel => exact ⟨m / 10, _, int_eq (by simp only [sgn]; simp), hown1, (hB.alloc hB.size _).trans hB1, fromRel_step Hl.out h0, by omega⟩
      case measure => simp [intOf]; omega

set_option maxRecDepth 100000 in
theorem refFromInt_neg (n : Nat) (w : World) (h1 : 0 < n) (h2 : n ≤ 9223372036854775808) :
    Calls Tryz.prog 20 #[.int .i64 (-(n : Int))] w fun e w' => e = .returned (.string (ofI (-(n : Int)))) ∧ Below w.heap.size w w' := by
  have hln : (digs 10 n).length ≤ 20 := digs_len_of_lt (by omega)
  go_enter Tryz.func20, Tryz.ntmps20
  go_wp2
  go_loopw [3, 4] (fun out mv wr => FromRel n true w out mv wr) (fun _ mv _ => (intOf mv).natAbs)
  case atStart => exact ⟨n, [], rfl, OwnL.nil _ _, Below.refl _ _, rfl, Nat.le_refl _⟩
  case round =>
    obtain ⟨m, l, rfl, hown, hB, hl, hmn⟩ := hrel
    have Hl := Lib.hid hl; clear hl
    have hll := fromRel_len Hl.out hln
    have hbs := hB.size
    rw [show sgn true m = -(m : Int) from rfl]
    by_cases h0 : m = 0
    · subst h0
      have e1 := Hl.out
      rw [digs_zero, List.append_nil] at e1
      subst e1
      go_wp2_with (go_at_call 52; refine (refText_any true n _ _ hown.rd (by omega)).mono ?_; rintro e w6 ⟨rfl, hb6⟩)
      go_ret
      exact ⟨rfl, hB.trans (hb6.mono hB.size)⟩
    · have c1 : (-(m : Int) != 0) = true := by rw [bne_iff_ne]; omega
      obtain ⟨md, hmd⟩ : ∃ md, m % 10 = md := ⟨_, rfl⟩
      obtain ⟨mq, hmq⟩ : ∃ mq, m / 10 = mq := ⟨_, rfl⟩
      have t1 : (-(m : Int)).tmod 10 = -(md : Int) := by rw [Int.neg_tmod, ← hmd]; congr 1
      have t2 : (-(m : Int)).tdiv 10 = -(mq : Int) := by rw [Int.neg_tdiv, ← hmq]; congr 1
      have hmd9 : md ≤ 9 := by omega
      have hmq9 : mq ≤ m := by omega
      have hmq0 : mq < m := by omega
      have Hmd := Lib.hid hmd
      have Hmq := Lib.hid hmq
      clear hmd hmq
      have hm0 : 0 < m := by omega
      by_cases hz : md = 0
      · subst hz
        go_wp2_with (at_builtin; refine appN rfl _ _ rfl rfl (hown.alloc _) wr.heap.size 1 _ rfl (cell_new1 _ _ _) (m % 10) (int_eq (by rw [Hmd.out]; rfl)) (by omega) (by simp; omega) ?_; intro v' w1 hown1 hB1)
        go_roundw
        case rel => exact ⟨m / 10, _, int_eq (by rw [Hmq.out]; rfl), hown1, (hB.alloc hB.size _).trans hB1, fromRel_step Hl.out h0, by omega⟩
        case measure => simp [intOf]; omega
      · have c2 : -(md : Int) < 0 := by omega
        go_wp2_with (at_builtin; refine appN rfl _ _ rfl rfl (hown.alloc _) wr.heap.size 1 _ rfl (cell_new1 _ _ _) (m % 10) (int_eq (by rw [Hmd.out])) (by omega) (by simp; omega) ?_; intro v' w1 hown1 hB1)
        go_roundw
        case rel => exact ⟨m / 10, _, int_eq (by rw [Hmq.out]; rfl), hown1, (hB.alloc hB.size _).trans hB1, fromRel_step Hl.out h0, by omega⟩
        case measure => simp [intOf]; omega
theorem refFromInt_any (n : Int) (w : World) (h1 : -9223372036854775808 ≤ n) (h2 : n ≤ 9223372036854775807) :
    Calls Tryz.prog 20 #[.int .i64 n] w fun e w' => e = .returned (.string (ofI n)) ∧ Below w.heap.size w w' := by
  by_cases h : n < 0
  · have := refFromInt_neg n.natAbs w (by omega) (by omega)
    rwa [show -(n.natAbs : Int) = n by omega] at this
  · have := refFromInt_pos n.natAbs w (by omega)
    rwa [show (n.natAbs : Int) = n by omega] at this
end Go.Proofs.YtgeoidnleagloaaGreatDoor
/- Walks of the reference's integer functions: the machine integer that a text is. -/
namespace Go.Proofs.YtgeoidnleagloaaGreatDoor
open Go.RowKit Yk

theorem nat10_snoc (l : List UInt8) (c : UInt8) : nat10 (l ++ [c]) = 10 * nat10 l + dv c := by
  unfold nat10
  rw [List.reverse_append]
  simp [val]; omega
theorem nat10_append_le (l m : List UInt8) : nat10 l ≤ nat10 (l ++ m) := by
  unfold nat10
  rw [List.reverse_append, List.map_append, val_append]
  have : 1 ≤ 10 ^ (m.reverse.map dv).length := Nat.one_le_pow _ _ (by decide)
  have h2 := Nat.mul_le_mul_right (val 10 (l.reverse.map dv)) this
  omega
theorem nat10_take_le (l : List UInt8) (k : Nat) : nat10 (l.take k) ≤ nat10 l := by
  conv => rhs; rw [← List.take_append_drop k l]
  exact nat10_append_le _ _
theorem tail_take' (l : List UInt8) (k : Nat) : (l.take (k + 1)).tail = l.tail.take k := by cases l <;> simp
theorem take_snoc' (s : ByteArray) (k : Nat) (h : k < s.size) : s.data.toList.take (k + 1) = s.data.toList.take k ++ [s[k]] := by
  rw [List.take_add_one, ba_at s k h]; rfl
def minText : ByteArray := ⟨#[45, 57, 50, 50, 51, 51, 55, 50, 48, 51, 54, 56, 53, 52, 55, 55, 53, 56, 48, 56]⟩
def maxText : ByteArray := ⟨#[57, 50, 50, 51, 51, 55, 50, 48, 51, 54, 56, 53, 52, 55, 55, 53, 56, 48, 55]⟩
theorem minText_n : vS minText = true ∧ nS minText = -9223372036854775808 := by decide +kernel
theorem maxText_n : vS maxText = true ∧ nS maxText = 9223372036854775807 := by decide +kernel
theorem cmp_min (s : ByteArray) (h : vS s = true) : decide (iCmp s ⟨#[45, 57, 50, 50, 51, 51, 55, 50, 48, 51, 54, 56, 53, 52, 55, 55, 53, 56, 48, 56]⟩ < 0) = decide (nS s < -9223372036854775808) := by
  show decide (iCmp s minText < 0) = _
  unfold iCmp
  rw [h, minText_n.1, minText_n.2]
  simp only [Bool.and_self, if_true, cmpI]
  by_cases h1 : nS s < -9223372036854775808
  · simp [h1]
  · simp only [h1, if_false]; split <;> simp
theorem cmp_max (s : ByteArray) (h : vS s = true) : decide (0 < iCmp s ⟨#[57, 50, 50, 51, 51, 55, 50, 48, 51, 54, 56, 53, 52, 55, 55, 53, 56, 48, 55]⟩) = decide (9223372036854775807 < nS s) := by
  show decide (0 < iCmp s maxText) = _
  unfold iCmp
  rw [h, maxText_n.1, maxText_n.2]
  simp only [Bool.and_self, if_true, cmpI]
  by_cases h1 : nS s < 9223372036854775807
  · have : ¬ 9223372036854775807 < nS s := by omega
    simp [h1, this]
  · simp only [h1, if_false]; split <;> simp_all

set_option maxRecDepth 100000 in
theorem refToInt_pos (s : ByteArray) (w : World) (hs : vS s = true) (h0 : 0 ≤ nS s) (h2 : nS s ≤ 9223372036854775807) :
    Calls Tryz.prog 43 #[.string s] w fun e w' => e = .returned (.tuple #[.int .i64 (nS s), .int .i64 0]) ∧ Below w.heap.size w w' := by
  have hva : vld s.data.toList = true := hs
  have hneg : negB s.data.toList = false := by
    cases hb : negB s.data.toList with
    | false => rfl
    | true => have := (neg_iff hs).1 hb; omega
  have hhd : s.data.toList.head? ≠ some 45 := by simpa [negB] using hneg
  obtain ⟨a1, a2, a3, a4⟩ := vld_parts hva
  rw [body_pos hhd] at a1 a2 a3
  rw [ba_len] at a2
  have e1 : nS s = (nat10 s.data.toList : Int) := by
    unfold nS toI; rw [if_neg hhd, body_pos hhd]
  have c1 := cmp_min s hs
  have c2 := cmp_max s hs
  rw [show decide (nS s < -9223372036854775808) = false by simp; omega] at c1
  rw [show decide (9223372036854775807 < nS s) = false by simp; omega] at c2
  have hsz : 0 < s.size := by
    apply Nat.pos_of_ne_zero
    intro e
    exact a1 (List.eq_nil_of_length_eq_zero (by rw [ba_len]; exact e))
  have c3 : ((s[0].toNat : Int) == 45) = false := by
    rw [beq_eq_false_iff_ne]
    intro e
    apply hhd
    rw [List.head?_eq_getElem?, ba_at s 0 hsz]
    congr 1
    exact UInt8.toNat_inj.1 (by simpa using Int.ofNat_inj.1 e)
  have hN : nat10 s.data.toList ≤ 9223372036854775807 := by omega
  have hsz2 := vS_size hs
  have hsm : s.size ≤ maxLen := Nat.le_trans hsz2 (by decide)
  rw [e1]
  have Ha3 := Lib.hid a3
  have C1 := Lib.hid c1
  have C2 := Lib.hid c2
  have HN := Lib.hid hN
  clear a1 a3 a4 hhd hneg hs h0 h2 e1 c1 c2 hN
  have Hb1 := Lib.hid (fun w => refCompare_any s ⟨#[45, 57, 50, 50, 51, 51, 55, 50, 48, 51, 54, 56, 53, 52, 55, 55, 53, 56, 48, 56]⟩ w hsm (by decide))
  have Hb2 := Lib.hid (fun w => refCompare_any s ⟨#[57, 50, 50, 51, 51, 55, 50, 48, 51, 54, 56, 53, 52, 55, 55, 53, 56, 48, 55]⟩ w hsm (by decide))
  obtain ⟨r1, hr1⟩ : ∃ r, iCmp s ⟨#[45, 57, 50, 50, 51, 51, 55, 50, 48, 51, 54, 56, 53, 52, 55, 55, 53, 56, 48, 56]⟩ = r := ⟨_, rfl⟩
  obtain ⟨r2, hr2⟩ : ∃ r, iCmp s ⟨#[57, 50, 50, 51, 51, 55, 50, 48, 51, 54, 56, 53, 52, 55, 55, 53, 56, 48, 55]⟩ = r := ⟨_, rfl⟩
  rw [hr1] at C1 Hb1
  rw [hr2] at C2 Hb2
  have d1 := C1.out
  have d2 := C2.out
  clear hr1 hr2
  go_enter Tryz.func43, Tryz.ntmps43
  go_wp2_with (first
    | (go_at_call 53; refine (refValid_any _ _ (by assumption)).mono ?_; rintro e w0 ⟨rfl, rfl⟩)
    | (go_at_call 67; (with_reducible refine (Hb1.out _).mono ?_); rintro e w1 ⟨rfl, hb1⟩)
    | (go_at_call 67; (with_reducible refine (Hb2.out _).mono ?_); rintro e w2 ⟨rfl, hb2⟩))
  clear d1 d2
  have hB12 := hb1.trans (hb2.mono hb1.size)
  go_loopw [4, 5] (fun nv i wr => ∃ k N : Nat, k ≤ s.size ∧ i = .int .i64 k ∧ nv = .int .i64 (N : Int) ∧ nat10 (s.data.toList.take k) = N ∧ Below w.heap.size w wr) (fun _ i _ => (s.size - intOf i).toNat)
  case atStart => exact ⟨0, 0, Nat.zero_le _, rfl, rfl, by rw [List.take_zero]; rfl, hB12⟩
  case round =>
    obtain ⟨k, N, hk, rfl, rfl, hN, hB⟩ := hrel
    have HN2 := Lib.hid hN; clear hN
    clear hb1 hb2 hB12
    by_cases hin : k < s.size
    · have hd : 48 ≤ s[k].toNat ∧ s[k].toNat ≤ 57 := (dig_iff _).1 (Ha3.out _ (List.mem_of_getElem? (ba_at s k hin)))
      have hstep : nat10 (s.data.toList.take (k + 1)) = 10 * N + (s[k].toNat - 48) := by rw [take_snoc' s k hin, nat10_snoc, HN2.out]; rfl
      have hbnd : 10 * N + (s[k].toNat - 48) ≤ 9223372036854775807 := by rw [← hstep]; exact Nat.le_trans (nat10_take_le _ _) HN.out
      have Hstep := Lib.hid hstep; clear hstep
      have c4 : ((s[k].toNat : Int) == 45) = false := by rw [beq_eq_false_iff_ne]; omega
      go_wp2
      go_roundw
      case rel => exact ⟨k + 1, 10 * N + (s[k].toNat - 48), by omega, by go_num, int_eq (by omega), Hstep.out, hB⟩
      case measure => simp [intOf]; omega
    · obtain rfl : k = s.size := by omega
      go_wp2
      go_ret2
      refine ⟨ret_pair (int_eq ?_) rfl, hB⟩
      rw [← HN2.out, List.take_of_length_le (by rw [ba_len]; exact Nat.le_refl _)]

set_option maxRecDepth 100000 in
theorem refToInt_neg (s : ByteArray) (w : World) (hs : vS s = true) (h0 : nS s < 0) (h2 : -9223372036854775808 ≤ nS s) :
    Calls Tryz.prog 43 #[.string s] w fun e w' => e = .returned (.tuple #[.int .i64 (nS s), .int .i64 0]) ∧ Below w.heap.size w w' := by
  have hva : vld s.data.toList = true := hs
  have hneg : negB s.data.toList = true := (neg_iff hs).2 h0
  have hhd : s.data.toList.head? = some 45 := by simpa [negB] using hneg
  obtain ⟨a1, a2, a3, a4⟩ := vld_parts hva
  have e1 : nS s = -(nat10 (body s.data.toList) : Int) := by
    unfold nS toI; rw [if_pos hhd]
  rw [body_neg hhd] at a1 a2 a3 e1
  have c1 := cmp_min s hs
  have c2 := cmp_max s hs
  rw [show decide (nS s < -9223372036854775808) = false by simp; omega] at c1
  rw [show decide (9223372036854775807 < nS s) = false by simp; omega] at c2
  have hsz : 0 < s.size := by
    apply Nat.pos_of_ne_zero
    intro e
    have e2 : s.data.toList = [] := List.eq_nil_of_length_eq_zero (by rw [ba_len]; exact e)
    rw [e2] at hhd; simp at hhd
  have c3 : ((s[0].toNat : Int) == 45) = true := by
    rw [List.head?_eq_getElem?, ba_at s 0 hsz] at hhd
    have : s[0] = 45 := by simpa using hhd
    rw [this]; rfl
  have hN : nat10 s.data.toList.tail ≤ 9223372036854775808 := by omega
  have hsz2 := vS_size hs
  have hsm : s.size ≤ maxLen := Nat.le_trans hsz2 (by decide)
  rw [e1]
  have Ha3 := Lib.hid a3
  have C1 := Lib.hid c1
  have C2 := Lib.hid c2
  have HN := Lib.hid hN
  clear a1 a3 a4 hhd hneg hs h0 h2 e1 c1 c2 hN
  have Hb1 := Lib.hid (fun w => refCompare_any s ⟨#[45, 57, 50, 50, 51, 51, 55, 50, 48, 51, 54, 56, 53, 52, 55, 55, 53, 56, 48, 56]⟩ w hsm (by decide))
  have Hb2 := Lib.hid (fun w => refCompare_any s ⟨#[57, 50, 50, 51, 51, 55, 50, 48, 51, 54, 56, 53, 52, 55, 55, 53, 56, 48, 55]⟩ w hsm (by decide))
  obtain ⟨r1, hr1⟩ : ∃ r, iCmp s ⟨#[45, 57, 50, 50, 51, 51, 55, 50, 48, 51, 54, 56, 53, 52, 55, 55, 53, 56, 48, 56]⟩ = r := ⟨_, rfl⟩
  obtain ⟨r2, hr2⟩ : ∃ r, iCmp s ⟨#[57, 50, 50, 51, 51, 55, 50, 48, 51, 54, 56, 53, 52, 55, 55, 53, 56, 48, 55]⟩ = r := ⟨_, rfl⟩
  rw [hr1] at C1 Hb1
  rw [hr2] at C2 Hb2
  have d1 := C1.out
  have d2 := C2.out
  clear hr1 hr2
  go_enter Tryz.func43, Tryz.ntmps43
  go_wp2_with (first
    | (go_at_call 53; refine (refValid_any _ _ (by assumption)).mono ?_; rintro e w0 ⟨rfl, rfl⟩)
    | (go_at_call 67; (with_reducible refine (Hb1.out _).mono ?_); rintro e w1 ⟨rfl, hb1⟩)
    | (go_at_call 67; (with_reducible refine (Hb2.out _).mono ?_); rintro e w2 ⟨rfl, hb2⟩))
  clear d1 d2
  have hB12 := hb1.trans (hb2.mono hb1.size)
  go_loopw [4, 5] (fun nv i wr => ∃ k N : Nat, k ≤ s.size ∧ i = .int .i64 k ∧ nv = .int .i64 (-(N : Int)) ∧ nat10 (s.data.toList.take k).tail = N ∧ Below w.heap.size w wr) (fun _ i _ => (s.size - intOf i).toNat)
  case atStart => exact ⟨0, 0, Nat.zero_le _, rfl, rfl, by rw [List.take_zero]; rfl, hB12⟩
  case round =>
    obtain ⟨k, N, hk, rfl, rfl, hN, hB⟩ := hrel
    have HN2 := Lib.hid hN; clear hN
    clear hb1 hb2 hB12
    by_cases hin : k < s.size
    · cases k with
      | zero =>
        have Hz : Hid (N = 0) := by rw [← HN2.out, List.take_zero]; rfl
        go_wp2
        go_roundw
        case rel => exact ⟨1, N, by omega, by go_num, rfl, by rw [show (s.data.toList.take 1).tail = [] from by rw [take_snoc' s 0 hsz]; rfl]; exact Hz.out.symm, hB⟩
        case measure => simp [intOf]; omega
      | succ m =>
        have hd : 48 ≤ s[m + 1].toNat ∧ s[m + 1].toNat ≤ 57 := (dig_iff _).1 (Ha3.out _ (List.mem_of_getElem? (i := m) (by rw [List.getElem?_tail]; exact ba_at s (m + 1) hin)))
        have hstep : nat10 (s.data.toList.take (m + 1 + 1)).tail = 10 * N + (s[m + 1].toNat - 48) := by
          rw [take_snoc' s (m + 1) hin, List.tail_append_of_ne_nil (by rw [take_snoc' s m (by omega)]; simp), nat10_snoc, HN2.out]; rfl
        have hbnd : 10 * N + (s[m + 1].toNat - 48) ≤ 9223372036854775808 := by
          rw [← hstep, tail_take']; exact Nat.le_trans (nat10_take_le _ _) HN.out
        have Hstep := Lib.hid hstep; clear hstep
        have c4 : ((s[m + 1].toNat : Int) == 45) = false := by rw [beq_eq_false_iff_ne]; omega
        go_wp2
        go_roundw
        case rel => exact ⟨m + 1 + 1, 10 * N + (s[m + 1].toNat - 48), by omega, by go_num, int_eq (by omega), Hstep.out, hB⟩
        case measure => simp [intOf]; omega
    · obtain rfl : k = s.size := by omega
      go_wp2
      go_ret2
      refine ⟨ret_pair (int_eq ?_) rfl, hB⟩
      rw [← HN2.out, List.take_of_length_le (by rw [ba_len]; exact Nat.le_refl _)]


theorem iToInt_yes {s : ByteArray} (h : vS s = true) (h1 : -9223372036854775808 ≤ nS s) (h2 : nS s ≤ 9223372036854775807) : iToInt s = (nS s, 0) := by simp [iToInt, h, h1, h2]
theorem iToInt_no {s : ByteArray} (h : ¬ (vS s = true ∧ -9223372036854775808 ≤ nS s ∧ nS s ≤ 9223372036854775807)) : iToInt s = (0, 30) := by
  unfold iToInt
  rw [if_neg]
  simpa [Bool.and_eq_true] using h
set_option maxRecDepth 100000 in
theorem refToInt_any (s : ByteArray) (w : World) (hs : s.size ≤ maxLen) :
    Calls Tryz.prog 43 #[.string s] w fun e w' => e = .returned (.tuple #[.int .i64 (iToInt s).1, .int .i64 (iToInt s).2]) ∧ Below w.heap.size w w' := by
  by_cases hv : vS s = true
  · by_cases h1 : -9223372036854775808 ≤ nS s
    · by_cases h2 : nS s ≤ 9223372036854775807
      · rw [iToInt_yes hv h1 h2]
        by_cases h0 : 0 ≤ nS s
        · exact refToInt_pos s w hv h0 h2
        · exact refToInt_neg s w hv (by omega) h1
      · rw [iToInt_no (fun h => h2 h.2.2)]
        have c1 := cmp_min s hv
        have c2 := cmp_max s hv
        rw [show decide (nS s < -9223372036854775808) = false by simp; omega] at c1
        rw [show decide (9223372036854775807 < nS s) = true by simp; omega] at c2
        have hva : vld s.data.toList = true := hv
        have Hb1 := Lib.hid (fun w => refCompare_any s ⟨#[45, 57, 50, 50, 51, 51, 55, 50, 48, 51, 54, 56, 53, 52, 55, 55, 53, 56, 48, 56]⟩ w hs (by decide))
        have Hb2 := Lib.hid (fun w => refCompare_any s ⟨#[57, 50, 50, 51, 51, 55, 50, 48, 51, 54, 56, 53, 52, 55, 55, 53, 56, 48, 55]⟩ w hs (by decide))
        obtain ⟨r1, hr1⟩ : ∃ r, iCmp s ⟨#[45, 57, 50, 50, 51, 51, 55, 50, 48, 51, 54, 56, 53, 52, 55, 55, 53, 56, 48, 56]⟩ = r := ⟨_, rfl⟩
        obtain ⟨r2, hr2⟩ : ∃ r, iCmp s ⟨#[57, 50, 50, 51, 51, 55, 50, 48, 51, 54, 56, 53, 52, 55, 55, 53, 56, 48, 55]⟩ = r := ⟨_, rfl⟩
        rw [hr1] at c1 Hb1
        rw [hr2] at c2 Hb2
        clear hr1 hr2 hv h1 h2
        go_enter Tryz.func43, Tryz.ntmps43
        go_wp2_with (first
          | (go_at_call 53; refine (refValid_any _ _ (by assumption)).mono ?_; rintro e w0 ⟨rfl, rfl⟩)
          | (go_at_call 67; (with_reducible refine (Hb1.out _).mono ?_); rintro e w1 ⟨rfl, hb1⟩)
          | (go_at_call 67; (with_reducible refine (Hb2.out _).mono ?_); rintro e w2 ⟨rfl, hb2⟩))
        go_ret2
        exact ⟨rfl, hb1.trans (hb2.mono hb1.size)⟩
    · rw [iToInt_no (fun h => h1 h.2.1)]
      have c1 := cmp_min s hv
      rw [show decide (nS s < -9223372036854775808) = true by simp; omega] at c1
      have hva : vld s.data.toList = true := hv
      have Hb1 := Lib.hid (fun w => refCompare_any s ⟨#[45, 57, 50, 50, 51, 51, 55, 50, 48, 51, 54, 56, 53, 52, 55, 55, 53, 56, 48, 56]⟩ w hs (by decide))
      obtain ⟨r1, hr1⟩ : ∃ r, iCmp s ⟨#[45, 57, 50, 50, 51, 51, 55, 50, 48, 51, 54, 56, 53, 52, 55, 55, 53, 56, 48, 56]⟩ = r := ⟨_, rfl⟩
      rw [hr1] at c1 Hb1
      clear hr1 hv h1
      go_enter Tryz.func43, Tryz.ntmps43
      go_wp2_with (first
        | (go_at_call 53; refine (refValid_any _ _ (by assumption)).mono ?_; rintro e w0 ⟨rfl, rfl⟩)
        | (go_at_call 67; (with_reducible refine (Hb1.out _).mono ?_); rintro e w1 ⟨rfl, hb1⟩))
      go_ret2
      exact ⟨rfl, hb1⟩
  · rw [iToInt_no (fun h => hv h.1)]
    have hva : vld s.data.toList = false := by simpa [vS] using hv
    clear hv
    go_enter Tryz.func43, Tryz.ntmps43
    go_wp2_with (go_at_call 53; refine (refValid_any _ _ (by assumption)).mono ?_; rintro e w0 ⟨rfl, rfl⟩)
    go_ret2
    exact ⟨rfl, Below.refl _ _⟩
end Go.Proofs.YtgeoidnleagloaaGreatDoor
