/- Walks of the reference's integer functions: zeros in front left out; sums and differences of digits. -/
import Derived.Test.YtgeoidnleagloaaGreatDoorRC
set_option linter.unusedVariables false
set_option linter.unusedSimpArgs false
namespace Go.Proofs.YtgeoidnleagloaaGreatDoor
open Go.RowKit Yk

set_option maxRecDepth 100000 in
theorem refTrim_any (l : List Nat) (hd : ∀ d ∈ l, d < 10) (v : Value) (w : World) (hv : Rd encN w v l) :
    Calls Tryz.prog 83 #[v] w fun e w' => ∃ v', e = .returned v' ∧ Rd encN w' v' (digs 10 (val 10 l)) ∧ (∀ B, From B v → From B v') ∧ Below w.heap.size w w' := by
  rw [← trimZ_eq (by decide) l hd]
  obtain ⟨a, cap, rfl, hca, hca2, hcell⟩ := hv.open'
  have Hadr := Lib.hid hv.addr
  have Hc := Lib.hid hcell; clear hcell hv hd
  obtain ⟨n, hn⟩ : ∃ n, l.length = n := ⟨_, rfl⟩
  have Hn := Lib.hid hn
  rw [hn] at hca ⊢
  clear hn
  go_enter Tryz.func83, Tryz.ntmps83
  go_wp2
  go_loopw [0] (fun s wr => ∃ k : Nat, k ≤ n ∧ s = .slice a k cap ∧ trimZ (l.take k) = trimZ l ∧ Below w.heap.size w wr) (fun s _ => match s with | .slice _ k _ => k | _ => 0)
  case atStart => exact ⟨n, Nat.le_refl _, rfl, by rw [List.take_of_length_le (by rw [Hn.out]; exact Nat.le_refl _)], Below.refl _ _⟩
  case round =>
    obtain ⟨k, hk, rfl, ht, hB⟩ := hrel
    have Ht := Lib.hid ht; clear ht
    cases k with
    | zero =>
      go_wp2
      go_ret
      refine ⟨_, rfl, ?_, fun B h => h.len, hB⟩
      rw [← Ht.out, List.take_zero, trimZ_nil]
      have := (Rd.take_of (k := 0) (Nat.zero_le _) (Nat.zero_le _) hca2 Hc.out Hadr.out.1 Hadr.out.2).below hB
      rwa [List.take_zero] at this
    | succ m =>
      have hm : m < l.length := by rw [Hn.out]; omega
      have Hr := Lib.hid (Rd.take_of (k := m + 1) (by omega) (by omega) hca2 Hc.out Hadr.out.1 Hadr.out.2)
      obtain ⟨b, off, rfl, hb, hc1⟩ := Hc.out m hm
      have k1 := (hB.cell (p := ⟨b, off + m, none⟩) hb).trans hc1
      clear hc1
      by_cases h0 : l[m] = 0
      · have c1 : ((l[m] : Int) == 0) = true := by rw [h0]; rfl
        have Ht2 := Lib.hid ((trimZ_zero hm h0).symm.trans Ht.out); clear h0
        go_wp2
        go_roundw
        case rel => exact ⟨m, by omega, rfl, Ht2.out, hB⟩
        case measure => simp
      · have c1 : ((l[m] : Int) == 0) = false := by rw [beq_eq_false_iff_ne]; omega
        have Ht2 := Lib.hid ((trimZ_stop hm h0).symm.trans Ht.out); clear h0
        go_wp2
        go_ret
        refine ⟨_, rfl, ?_, fun B h => h.len, hB⟩
        rw [← Ht2.out]
        exact Hr.out.below hB

end Go.Proofs.YtgeoidnleagloaaGreatDoor
