/- Walks of the reference's integer functions: products of digits. -/
import Derived.Test.YtgeoidnleagloaaGreatDoorRF
import Derived.Test.YtgeoidnleagloaaGreatDoorWL
import Derived.Test.YtgeoidnleagloaaGreatDoorPL
set_option linter.unusedVariables false
set_option linter.unusedSimpArgs false
namespace Go.Proofs.YtgeoidnleagloaaGreatDoor
open Go.RowKit Yk

/-- What an outer round of 'times' keeps. -/
def TimesOut (x y N : Nat) (w : World) (g : Nat) (i : Value) (wr : World) : Prop :=
  ∃ (k : Nat) (o : List Nat), i = .int .i64 k ∧ OwnL encN 3 wr w.heap.size (.slice (some ⟨g, 0, none⟩) N N) o ∧ Below w.heap.size w wr ∧ o.length = N ∧ (∀ d ∈ o, d < 10) ∧
    val 10 o = val 10 ((digs 10 x).take k) * y ∧ k ≤ (digs 10 x).length
/-- What an inner round keeps. -/
def TimesIn (x y N : Nat) (w : World) (g i : Nat) (carry kv : Value) (wr : World) : Prop :=
  ∃ (k c : Nat) (o : List Nat), kv = .int .i64 k ∧ carry = .int .i64 c ∧ OwnL encN 3 wr w.heap.size (.slice (some ⟨g, 0, none⟩) N N) o ∧ Below w.heap.size w wr ∧ o.length = N ∧ (∀ d ∈ o, d < 10) ∧ c ≤ 9 ∧
    val 10 o + 10 ^ (i + k) * c = val 10 ((digs 10 x).take i) * y + 10 ^ i * ((digs 10 x).getD i 0 * val 10 ((digs 10 y).take k)) ∧ (k ≤ (digs 10 y).length ∨ c = 0) ∧ k ≤ (digs 10 y).length + 1

theorem timesIn_eq {V y i k c da db p ov : Nat} {o b : List Nat} (hj : i + k < o.length) (hov : o[i + k] = ov) (hv : val 10 o + 10 ^ (i + k) * c = V * y + 10 ^ i * (da * val 10 (b.take k))) (hdb : b.getD k 0 = db) (hp : da * db = p) :
    val 10 (o.set (i + k) ((ov + c + p) % 10)) + 10 ^ (i + (k + 1)) * ((ov + c + p) / 10) = V * y + 10 ^ i * (da * val 10 (b.take (k + 1))) := by
  have h := mul_step (ab := p) hj hv
  rw [hov] at h
  rw [val_take_succ, hdb, Nat.mul_add da, ← Nat.mul_assoc da, Nat.mul_comm da (10 ^ k), Nat.mul_assoc (10 ^ k), hp, Nat.mul_add (10 ^ i), ← Nat.mul_assoc (10 ^ i) (10 ^ k), ← Nat.pow_add]
  have e : i + (k + 1) = i + k + 1 := by omega
  rw [e]
  omega
theorem set_digits {o : List Nat} {j d : Nat} (h : ∀ x ∈ o, x < 10) (hd : d < 10) : ∀ x ∈ o.set j d, x < 10 := by
  intro x hx
  rcases List.mem_or_eq_of_mem_set hx with h1 | h1
  · exact h x h1
  · omega
theorem timesIn_step {x y N : Nat} {w wr : World} {g i k c da db p ov : Nat} {o : List Nat} {c' k' u : Value}
    (hown : OwnL encN 3 wr w.heap.size (.slice (some ⟨g, 0, none⟩) N N) o) (hB : Below w.heap.size w wr) (hlo : o.length = N) (hdo : ∀ d ∈ o, d < 10) (hj : i + k < o.length) (hov : o[i + k] = ov) (hg : w.heap.size ≤ g)
    (hv : val 10 o + 10 ^ (i + k) * c = val 10 ((digs 10 x).take i) * y + 10 ^ i * ((digs 10 x).getD i 0 * val 10 ((digs 10 y).take k))) (hda : (digs 10 x).getD i 0 = da) (hdb : (digs 10 y).getD k 0 = db) (hp : da * db = p)
    (hb1 : ov < 10) (hb2 : c ≤ 9) (hb3 : p ≤ 81) (hk : k < (digs 10 y).length ∨ ov + c + p < 10) (hk2 : k ≤ (digs 10 y).length) (hk' : k' = .int .i64 ((k + 1 : Nat) : Int)) (hc' : c' = .int .i64 (((ov + c + p) / 10 : Nat) : Int)) (hu : u = encN ((ov + c + p) % 10)) (q : Nat) :
    TimesIn x y N w g i c' k' ((wr.drewN q).setCell ⟨g, i + k, none⟩ u) := by
  have hown' : OwnL encN 3 (wr.drewN q) w.heap.size (.slice (some ⟨g, 0, none⟩) N N) o := hown
  refine ⟨k + 1, _, _, hk', hc', hown'.set (i + k) hj ((ov + c + p) % 10) hu, (hB.drewN q).setCell hg _, by simpa using hlo, set_digits hdo (by omega), by omega, ?_, ?_, by omega⟩
  · rw [hda] at hv ⊢; exact timesIn_eq hj hov hv hdb hp
  · rcases hk with hk | hk
    · exact .inl hk
    · exact .inr (by omega)

set_option maxRecDepth 100000 in
theorem refTimes_any (x y : Nat) (va vb : Value) (w : World) (ha : Rd encN w va (digs 10 x)) (hb : Rd encN w vb (digs 10 y)) (hx : (digs 10 x).length ≤ 1000) (hy : (digs 10 y).length ≤ 1000) :
    Calls Tryz.prog 56 #[va, vb] w fun e w' => ∃ v, e = .returned v ∧ Rd encN w' v (digs 10 (x * y)) ∧ From w.heap.size v ∧ Below w.heap.size w w' := by
  obtain ⟨aa, ca, rfl, hca, hca2, hcella⟩ := ha.open'
  obtain ⟨ab, cb, rfl, hcb, hcb2, hcellb⟩ := hb.open'
  have Hca := Lib.hid hcella; clear hcella
  have Hcb := Lib.hid hcellb; clear hcellb
  clear ha hb
  obtain ⟨n, hn⟩ : ∃ n, (digs 10 x).length = n := ⟨_, rfl⟩
  obtain ⟨m, hm⟩ : ∃ n, (digs 10 y).length = n := ⟨_, rfl⟩
  have Hn := Lib.hid hn
  have Hm := Lib.hid hm
  rw [hn] at hca hx ⊢
  rw [hm] at hcb hy ⊢
  clear hn hm
  go_enter Tryz.func56, Tryz.ntmps56
  go_wp2_with (at_make; refine wpList_makeN (enc := encN) (e := 3) (B := w.heap.size) rfl _ _ 53 rfl 0 8 Tryz.underlying53 infoInt rfl .i64 .i64 _ _ (n + m) rfl rfl (by omega) (by omega) (by omega) (by decide) (Nat.le_refl _) ?_; intro w1 hown1 hB1)
  go_loopw [6] (fun i wr => TimesOut x y (n + m) w w.heap.size i wr) (fun i _ => (n - intOf i).toNat)
  case atStart => exact ⟨0, _, rfl, hown1, hB1, by simp, by simp, by simp [val, val_replicate_zero], Nat.zero_le _⟩
  case round =>
    obtain ⟨i, o, rfl, hown, hB, hlo, hdo, hvo, hio⟩ := hrel
    have Hlo := Lib.hid hlo; clear hlo
    have Hdo := Lib.hid hdo; clear hdo
    have Hvo := Lib.hid hvo; clear hvo
    have Hown := Lib.hid hown; clear hown
    clear hown1 hB1
    rw [Hn.out] at hio
    by_cases hin : i < n
    · obtain ⟨ba, oa, rfl, hba, hc1⟩ := Hca.out i (by rw [Hn.out]; omega)
      obtain ⟨da, eda⟩ : ∃ d, (digs 10 x)[i]'(by rw [Hn.out]; omega) = d := ⟨_, rfl⟩
      have hda : da < 10 := by rw [← eda]; exact digs_lt (by decide) x _ (List.getElem_mem _)
      have Hda := Lib.hid (show (digs 10 x).getD i 0 = da by rw [List.getD, List.getElem?_eq_getElem (by rw [Hn.out]; omega), eda]; rfl)
      rw [eda] at hc1
      clear eda
      obtain ⟨wo, hwo⟩ : ∃ wo : World, wo = wr := ⟨_, rfl⟩
      rw [← hwo] at Hown hB
      subst hwo
      have Hc1 := Lib.hid hc1; clear hc1
      go_wp2
      go_loopw [7, 8] (fun c k wr => TimesIn x y (n + m) w w.heap.size i c k wr) (fun _ k _ => (m + 2 - intOf k).toNat)
      case atStart => exact ⟨0, 0, o, rfl, rfl, Hown.out, hB, Hlo.out, Hdo.out, by omega, by rw [Hvo.out]; simp [val], .inl (Nat.zero_le _), by omega⟩
      case round =>
        obtain ⟨k, c, o2, rfl, rfl, hown, hB2, hlo2, hdo2, hc, hv2, hk, hk2⟩ := hrel
        rw [Hm.out] at hk hk2
        have Hlo2 := Lib.hid hlo2; clear hlo2
        have Hdo2 := Lib.hid hdo2; clear hdo2
        have Hv2 := Lib.hid hv2; clear hv2
        by_cases hkin : k < m ∨ 0 < c
        · have hj : i + k < o2.length := by rw [Hlo2.out]; omega
          have k1 := (hB2.cell (p := ⟨ba, oa + i, none⟩) hba).trans Hc1.out
          have k3 := hown.cell (i + k) hj
          have k4 := hown.free (i + k)
          obtain ⟨ov, eov⟩ : ∃ d, o2[i + k] = d := ⟨_, rfl⟩
          have hov : ov < 10 := by rw [← eov]; exact Hdo2.out _ (List.getElem_mem _)
          rw [eov] at k3
          have Eov := Lib.hid eov; clear eov
          have hbs := hB2.size
          by_cases hkm : k < m
          · obtain ⟨bb, ob, rfl, hbb, hc2⟩ := Hcb.out k (by rw [Hm.out]; omega)
            have k2 := (hB2.cell (p := ⟨bb, ob + k, none⟩) hbb).trans hc2
            obtain ⟨db, edb⟩ : ∃ d, (digs 10 y)[k]'(by rw [Hm.out]; omega) = d := ⟨_, rfl⟩
            have hdb : db < 10 := by rw [← edb]; exact digs_lt (by decide) y _ (List.getElem_mem _)
            have Hdb := Lib.hid (show (digs 10 y).getD k 0 = db by rw [List.getD, List.getElem?_eq_getElem (by rw [Hm.out]; omega), edb]; rfl)
            rw [edb] at k2
            obtain ⟨p, hp⟩ : ∃ p, da * db = p := ⟨_, rfl⟩
            have hp2 : p ≤ 81 := by rw [← hp]; exact Nat.mul_le_mul (by omega : da ≤ 9) (by omega : db ≤ 9)
            have Hp := Lib.hid hp
            have hp3 : (da : Int) * (db : Int) = (p : Int) := by rw [← hp]; simp
            clear hc2 edb hp
            go_wp2
            have hw1 : IntKind.i64.wrap (p : Int) = p := IntWalk.i64_in _ (by omega)
            have hw2 : IntKind.i64.wrap ((ov : Int) + c + p) = (ov : Int) + c + p := IntWalk.i64_in _ (by omega)
            go_quiet (fail)
            clear hw1 hw2
            go_wp2
            go_roundw
            case rel => exact timesIn_step hown hB2 Hlo2.out Hdo2.out hj Eov.out (Nat.le_refl _) Hv2.out Hda.out Hdb.out Hp.out hov hc hp2 (.inl (by rw [Hm.out]; exact hkm)) (by rw [Hm.out]; omega) (int_eq (by omega)) (int_eq (by omega)) (int_eq (by omega)) _
            case measure => simp [intOf]; omega
          · obtain rfl : k = m := by omega
            have Hdb := Lib.hid (show (digs 10 y).getD k 0 = 0 by rw [List.getD, List.getElem?_eq_none (by rw [Hm.out]; omega)]; rfl)
            have hsum : ov + c < 10 := by
              have h5 := mul_last (B := 10) (by decide) hj Hv2.out (by
                rw [show (digs 10 y).take k = digs 10 y from List.take_of_length_le (by rw [Hm.out]; omega), val_digs (n := y) (by decide)]
                have h6 := mul_bound (B := 10) (i := i) (lb := k) (a := digs 10 x) (b := digs 10 y) (digs_lt (by decide) x) (digs_lt (by decide) y) Hm.out (by rw [Hn.out]; exact hin)
                rw [val_digs (by decide), val_take_succ, Nat.add_mul, Nat.mul_assoc] at h6
                exact h6)
              rw [Eov.out] at h5; exact h5
            have hc0 : 0 < c := by omega
            go_wp2
            go_roundw
            case rel => exact timesIn_step (q := 0) (p := 0) hown hB2 Hlo2.out Hdo2.out hj Eov.out (Nat.le_refl _) Hv2.out Hda.out Hdb.out (by simp) hov hc (by omega) (.inr (by omega)) (by rw [Hm.out]; omega) (int_eq (by omega)) (int_eq (by omega)) (int_eq (by omega))
            case measure => simp [intOf]; omega
        · obtain rfl : c = 0 := by omega
          have h1 : decide (k < m) = false := by simp; omega
          go_wp2
          go_roundw
          case rel =>
            refine ⟨i + 1, o2, int_eq (by omega), hown, hB2, Hlo2.out, Hdo2.out, ?_, by rw [Hn.out]; omega⟩
            have h5 := Hv2.out
            rw [show (digs 10 y).take k = digs 10 y from List.take_of_length_le (by rw [Hm.out]; omega), val_digs (n := y) (by decide)] at h5
            rw [val_take_succ, Nat.add_mul, Nat.mul_assoc]
            omega
          case measure => simp [intOf]; omega
    · obtain rfl : i = n := by omega
      have hown2 := Hown.out
      go_wp2_with (go_at_call 83; refine (refTrim_any o Hdo.out _ _ hown2.rd).mono ?_; rintro e w1 ⟨v1, rfl, hr1, hf1, hb1⟩)
      go_ret
      refine ⟨_, rfl, ?_, hf1 _ hown2.from, hB.trans (hb1.mono hB.size)⟩
      have h5 := Hvo.out
      rw [List.take_of_length_le (by rw [Hn.out]; omega), val_digs (by decide)] at h5
      rwa [h5] at hr1
end Go.Proofs.YtgeoidnleagloaaGreatDoor
