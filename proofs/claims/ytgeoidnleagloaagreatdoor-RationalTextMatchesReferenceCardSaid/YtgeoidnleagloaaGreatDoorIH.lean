/- Walks of package integer: the search for a digit of a quotient. -/
import Derived.Deep.RegionWith
import Derived.Test.YtgeoidnleagloaaGreatDoorIG
set_option linter.unusedVariables false
set_option linter.unusedSimpArgs false
namespace Go.Proofs.YtgeoidnleagloaaGreatDoor
open Go.RowKit Yk

set_option maxRecDepth 100000 in
set_option maxHeartbeats 1000000 in
theorem search_any (gf : Nat) (p1 p2 : Value) (eg : ∀ args w, (callFunc gf args).run Tryz.prog w = .ok (.enter gf args) w) (n : Nat) (f : Nat → Bool) (w : World) (hn : n ≤ 1000000)
    (hg : ∀ (i : Nat) W, i < n → Below w.heap.size w W → Calls Tryz.prog gf #[.int .i64 i, p1, p2] W fun e W' => e = .returned (.bool (f i)) ∧ Below W.heap.size W W') (hmono : ∀ i j, i ≤ j → f i = true → f j = true) :
    Calls Tryz.prog 110 #[.int .i64 n, .func (.func gf) #[] #[p1, p2]] w fun e w' => ∃ k : Nat, e = .returned (.int .i64 k) ∧ (k ≤ n ∧ (∀ j, j < k → f j = false) ∧ (k < n → f k = true)) ∧ Below w.heap.size w w' := by
  have Hg := Lib.hid hg
  have Hm := Lib.hid hmono
  clear hg hmono
  go_enter Tryz.func110, Tryz.ntmps110
  go_wp2
  go_loopw [5, 6] (fun iv jv wr => ∃ i j : Nat, iv = .int .i64 i ∧ jv = .int .i64 j ∧ i ≤ j ∧ j ≤ n ∧ (∀ k, k < i → f k = false) ∧ (j < n → f j = true) ∧ Below w.heap.size w wr) (fun iv jv _ => (intOf jv - intOf iv).toNat)
  case atStart => exact ⟨0, n, rfl, rfl, Nat.zero_le _, Nat.le_refl _, fun k hk => absurd hk (Nat.not_lt_zero k), fun h => absurd h (Nat.lt_irrefl n), Below.refl _ _⟩
  case round =>
    obtain ⟨i, j, rfl, rfl, hij, hjn, h1, h2, hB⟩ := hrel
    have H1 := Lib.hid h1; clear h1
    have H2 := Lib.hid h2; clear h2
    by_cases hlt : i < j
    · obtain ⟨h, hh⟩ : ∃ h, (i + j) / 2 = h := ⟨_, rfl⟩
      have hh2 : ((i : Int) + (j : Int)) / 2 = (h : Int) := by omega
      have hb1 : i ≤ h := by omega
      have hb2 : h < j := by omega
      have HgH := Lib.hid (Hg.out h wr (by omega) hB)
      clear hh
      cases hf : f h
      · rw [hf] at HgH
        have Hf := Lib.hid hf; clear hf
        go_wp2_with ((with_reducible refine (HgH.out).mono ?_); rintro _ w2 ⟨rfl, hb⟩)
        go_roundw
        case rel =>
          refine ⟨h + 1, j, by go_num, rfl, by omega, hjn, fun k hk => ?_, H2.out, hB.trans (hb.mono hB.size)⟩
          cases hfk : f k with
          | false => rfl
          | true => have := Hm.out k h (by omega) hfk; rw [Hf.out] at this; cases this
        case measure => simp [intOf]; omega
      · rw [hf] at HgH
        have Hf := Lib.hid hf; clear hf
        go_wp2_with ((with_reducible refine (HgH.out).mono ?_); rintro _ w2 ⟨rfl, hb⟩)
        go_roundw
        case rel => exact ⟨i, h, rfl, rfl, hb1, by omega, H1.out, fun _ => Hf.out, hB.trans (hb.mono hB.size)⟩
        case measure => simp [intOf]; omega
    · obtain rfl : i = j := by omega
      go_wp2
      go_ret
      exact ⟨i, rfl, ⟨hjn, H1.out, H2.out⟩, hB⟩

set_option maxRecDepth 100000 in
set_option maxHeartbeats 2000000 in
theorem over1_any (y R i : Nat) (mv rv : Value) (bb rb : Nat) (w : World) (hm : Rd encN w mv (digs 10000 y)) (hr : Rd encN w rv (digs 10000 R)) (hb : w.cell? ⟨bb, 0, none⟩ = some (.func (.func 108) #[mv] #[])) (hbl : bb < w.heap.size)
    (hrb : w.cell? ⟨rb, 0, none⟩ = some rv) (hrl : rb < w.heap.size) (hi : i < 9999) (hy : (digs 10000 y).length ≤ 800) (hR : (digs 10000 R).length ≤ 900) :
    Calls Tryz.prog 109 #[.int .i64 i, .pointer (some ⟨bb, 0, none⟩), .pointer (some ⟨rb, 0, none⟩)] w fun e w' => e = .returned (.bool (decide (R < y * (i + 1)))) ∧ Below w.heap.size w w' := by
  have Hm := Lib.hid hm
  have Hr := Lib.hid hr
  obtain ⟨ma, mc, rfl, _⟩ := hm.open'
  obtain ⟨ra, rc, rfl, _⟩ := hr.open'
  clear hm hr
  have hlp : (digs 10000 (y * (i + 1))).length ≤ 801 := by
    obtain ⟨n, hn⟩ : ∃ n, (digs 10000 y).length = n := ⟨_, rfl⟩
    have h3 := (digs_length_le (B := 10000) (by decide) y n).1 (by rw [hn]; exact Nat.le_refl _)
    have h4 : y * (i + 1) < 10000 ^ (n + 1) := by rw [Nat.pow_succ]; exact Nat.mul_lt_mul'' h3 (by omega)
    have h5 := (digs_length_le (B := 10000) (by decide) (y * (i + 1)) (n + 1)).2 h4
    omega
  have hcmp : decide (0 < cmpN (y * (i + 1)) R) = decide (R < y * (i + 1)) := by
    by_cases h : R < y * (i + 1)
    · rw [cmpN_gt h]; simp [h]
    · have h2 : cmpN (y * (i + 1)) R ≤ 0 := by unfold cmpN; split <;> omega
      have h3 : ¬ 0 < cmpN (y * (i + 1)) R := by omega
      simp only [h, h3]
  obtain ⟨cv, hcv⟩ : ∃ c, cmpN (y * (i + 1)) R = c := ⟨_, rfl⟩
  obtain ⟨P, hP⟩ : ∃ c, y * (i + 1) = c := ⟨_, rfl⟩
  have hby : ∀ W, Below w.heap.size w W → Calls Tryz.prog 108 #[.slice ma (digs 10000 y).length mc, .int .i64 ((i : Int) + 1)] W fun e w' => ∃ v, e = .returned v ∧ Rd encN w' v (digs 10000 P) ∧ From W.heap.size v ∧ Below W.heap.size W w' := by
    intro W hW
    have := numBy_any y (i + 1) (by omega) _ W (Hm.out.below hW) (by omega)
    rw [hP] at this
    rwa [show ((i + 1 : Nat) : Int) = (i : Int) + 1 by omega] at this
  have hco : ∀ W v, Below w.heap.size w W → Rd encN W v (digs 10000 P) → Calls Tryz.prog 80 #[v, .slice ra (digs 10000 R).length rc] W fun e w' => e = .returned (.int .i64 cv) ∧ Below W.heap.size W w' := by
    intro W v hW hv
    rw [← hcv, hP]
    exact compare_any P R _ _ W hv (Hr.out.below hW) (by rw [← hP]; omega)
  rw [hcv] at hcmp
  have Hby := Lib.hid hby
  have Hco := Lib.hid hco
  rw [← hcmp]
  clear hby hco hcv hcmp hlp hP
  have hmx : Tryz.prog.follows .mixedOrders = true := by kernel_rfl
  go_enter Tryz.func109, Tryz.ntmps109
  go_wp2_with fail
  have hw1 : IntKind.i64.wrap ((i : Int) + 1) = (i : Int) + 1 := IntWalk.i64_in _ (by omega)
  go_region_with (first
    | (go_at_call 108; (with_reducible refine (Hby.out _ ((Below.refl _ w).drew)).mono ?_); rintro e w2 ⟨v2, rfl, hr2, hf2, hb2⟩; have hb12 : Below w.heap.size w w2 := ((Below.refl _ w).drew).trans hb2; have r2 : w2.cell? ⟨rb, 0, none⟩ = some (.slice ra (digs 10000 R).length rc) := (hb2.cell (p := ⟨rb, 0, none⟩) hrl).trans hrb)
    | (go_at_call 80; (with_reducible refine (Hco.out _ _ hb12 hr2).mono ?_); rintro e w3 ⟨rfl, hb3⟩))
  all_goals go_wp2
  all_goals go_ret
  all_goals exact ⟨rfl, hb12.trans (hb3.mono hb12.size)⟩
end Go.Proofs.YtgeoidnleagloaaGreatDoor
