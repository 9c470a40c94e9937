/- Walks of the reference's integer functions: order of lists of digits. -/
import Derived.Deep.QuietTactic
import Derived.BigQuiet
import Derived.Test.YtgeoidnleagloaaGreatDoorRB
set_option linter.unusedVariables false
set_option linter.unusedSimpArgs false
namespace Go.Proofs.YtgeoidnleagloaaGreatDoor
open Go.RowKit Yk

set_option maxRecDepth 100000 in
theorem refOrder_any (x y : Nat) (va vb : Value) (w : World) (ha : Rd encN w va (digs 10 x)) (hb : Rd encN w vb (digs 10 y)) :
    Calls Tryz.prog 95 #[va, vb] w fun e w' => e = .returned (.int .i64 (cmpN x y)) ∧ Below w.heap.size w w' := by
  obtain ⟨aa, ca, rfl, hca, hca2, hcella⟩ := ha.open'
  obtain ⟨ab, cb, rfl, hcb, hcb2, hcellb⟩ := hb.open'
  have Hca := Lib.hid hcella; clear hcella
  have Hcb := Lib.hid hcellb; clear hcellb
  clear ha hb
  by_cases hlen : (digs 10 x).length = (digs 10 y).length
  · obtain ⟨n, hn⟩ : ∃ n, (digs 10 x).length = n := ⟨_, rfl⟩
    have Hx := Lib.hid hn
    have Hy := Lib.hid (hlen.symm.trans hn)
    rw [← hlen, hn] at hcb ⊢
    rw [hn] at hca
    clear hlen hn
    have hc : ((n : Int) != n) = false := by simp
    go_enter Tryz.func95, Tryz.ntmps95
    go_wp2
    go_loopw [5] (fun i wr => ∃ j : Nat, j ≤ n ∧ i = .int .i64 ((j : Int) - 1) ∧ (digs 10 x).drop j = (digs 10 y).drop j ∧ Below w.heap.size w wr) (fun i _ => (intOf i + 1).toNat)
    case atStart => exact ⟨n, Nat.le_refl _, rfl, by rw [List.drop_of_length_le (by rw [Hx.out]; exact Nat.le_refl _), List.drop_of_length_le (by rw [Hy.out]; exact Nat.le_refl _)], Below.refl _ _⟩
    case round =>
      obtain ⟨j, hj, rfl, hd, hB⟩ := hrel
      have Hd := Lib.hid hd; clear hd
      cases j with
      | zero =>
        go_wp2
        go_ret
        exact ⟨ret_i64 (cmpN_eq (digs_inj (B := 10) (by decide) (by simpa using Hd.out))).symm, hB⟩
      | succ m =>
        obtain ⟨ba, oa, rfl, hba, hc1⟩ := Hca.out m (by rw [Hx.out]; omega)
        obtain ⟨bb, ob, rfl, hbb, hc2⟩ := Hcb.out m (by rw [Hy.out]; omega)
        have k1 := (hB.cell (p := ⟨ba, oa + m, none⟩) hba).trans hc1
        have k2 := (hB.cell (p := ⟨bb, ob + m, none⟩) hbb).trans hc2
        clear hc1 hc2
        obtain ⟨dx, ex⟩ : ∃ d, (digs 10 x)[m]'(by rw [Hx.out]; omega) = d := ⟨_, rfl⟩
        obtain ⟨dy, ey⟩ : ∃ d, (digs 10 y)[m]'(by rw [Hy.out]; omega) = d := ⟨_, rfl⟩
        rw [ex] at k1
        rw [ey] at k2
        have Ex := Lib.hid ex; clear ex
        have Ey := Lib.hid ey; clear ey
        by_cases h : dx = dy
        · have c1 : ((dx : Int) != dy) = false := by simp [h]
          have Hn := Lib.hid (drop_step (by rw [Hx.out]; omega) (by rw [Hy.out]; omega) Hd.out (Ex.out.trans (h.trans Ey.out.symm))); clear h
          go_wp2
          go_quiet (fail)
          go_wp2
          go_roundw
          case rel => exact ⟨m, by omega, by go_num, Hn.out, hB.drewN _⟩
          case measure => simp [intOf]
        · have c1 : ((dx : Int) != dy) = true := by rw [bne_iff_ne]; omega
          by_cases hlt : dx < dy
          · have c2 : decide (dx < dy) = true := by simp [hlt]
            have Hn := Lib.hid (digs_less (by decide) (by rw [Hx.out]; omega) (by rw [Hy.out]; omega) Hd.out (by rw [Ex.out, Ey.out]; exact hlt) : x < y); clear h
            go_wp2
            go_quiet (fail)
            go_wp2
            go_quiet (fail)
            go_wp2
            go_ret
            exact ⟨ret_i64 (cmpN_lt Hn.out).symm, (hB.drewN _).drewN _⟩
          · have c2 : decide (dx < dy) = false := by simp [hlt]
            have Hn := Lib.hid (digs_less (B := 10) (by decide) (by rw [Hy.out]; omega) (by rw [Hx.out]; omega) Hd.out.symm (by rw [Ex.out, Ey.out]; omega) : y < x); clear h
            go_wp2
            go_quiet (fail)
            go_wp2
            go_quiet (fail)
            go_wp2
            go_ret
            exact ⟨ret_i64 (cmpN_gt Hn.out).symm, (hB.drewN _).drewN _⟩
  · obtain ⟨n, hn⟩ : ∃ n, (digs 10 x).length = n := ⟨_, rfl⟩
    obtain ⟨m, hm⟩ : ∃ m, (digs 10 y).length = m := ⟨_, rfl⟩
    have h1 : n < m → x < y := fun h => digs_len_lt (B := 10) (by decide) (by omega)
    have h2 : m < n → y < x := fun h => digs_len_lt (B := 10) (by decide) (by omega)
    rw [hn, hm] at hlen
    rw [hn] at hca ⊢
    rw [hm] at hcb ⊢
    clear hn hm Hca Hcb
    have c1 : ((n : Int) != m) = true := by rw [bne_iff_ne]; omega
    by_cases hlt : n < m
    · have Hn := Lib.hid (h1 hlt); clear h1 h2
      go_enter Tryz.func95, Tryz.ntmps95
      go_wp2
      go_ret
      exact ⟨ret_i64 (cmpN_lt Hn.out).symm, Below.refl _ _⟩
    · have Hn := Lib.hid (h2 (by omega)); clear h1 h2
      go_enter Tryz.func95, Tryz.ntmps95
      go_wp2
      go_ret
      exact ⟨ret_i64 (cmpN_gt Hn.out).symm, Below.refl _ _⟩
end Go.Proofs.YtgeoidnleagloaaGreatDoor
