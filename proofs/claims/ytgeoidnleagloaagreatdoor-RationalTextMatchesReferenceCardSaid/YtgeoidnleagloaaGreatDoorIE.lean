/- Walks of package integer: digits folded one after the other, with a carry. -/
import Derived.Deep.QuietTactic
import Derived.BigQuiet
import Derived.Test.YtgeoidnleagloaaGreatDoorID
import Derived.Test.YtgeoidnleagloaaGreatDoorPL
set_option linter.unusedVariables false
set_option linter.unusedSimpArgs false
namespace Go.Proofs.YtgeoidnleagloaaGreatDoor
open Go.RowKit Yk

set_option maxRecDepth 100000 in
theorem at_any (l : List Nat) (v : Value) (i : Nat) (w : World) (hv : Rd encN w v l) (hi : i ≤ 1099511627776) :
    Calls Tryz.prog 114 #[v, .int .i64 i] w fun e w' => e = .returned (.int .i64 (l.getD i 0 : Nat)) ∧ w = w' := by
  obtain ⟨a, c, rfl, h1, h2, hc⟩ := hv.open'
  by_cases hl : i < l.length
  · obtain ⟨b, off, rfl, hb, k1⟩ := hc i hl
    have e1 : l.getD i 0 = l[i] := by simp [List.getD, List.getElem?_eq_getElem hl]
    rw [e1]
    obtain ⟨d, hd⟩ : ∃ d, l[i] = d := ⟨_, rfl⟩
    rw [hd] at k1 ⊢
    clear e1 hd hc hv
    go_enter Tryz.func114, Tryz.ntmps114
    go_wp2
    go_ret
    exact ⟨rfl, rfl⟩
  · have e1 : l.getD i 0 = 0 := by simp [List.getD, List.getElem?_eq_none (show l.length ≤ i by omega)]
    rw [e1]
    clear e1 hc hv
    go_enter Tryz.func114, Tryz.ntmps114
    go_wp2
    go_ret
    exact ⟨rfl, rfl⟩

/-- What a round of 'fold' keeps. -/
def FoldRel (n : Nat) (d : Nat → Int) (w : World) (carry out i : Value) (wr : World) : Prop :=
  ∃ (k : Nat) (c : Int) (l : List Nat), i = .int .i64 k ∧ carry = .int .i64 c ∧ OwnL encN 3 wr w.heap.size out l ∧ Below w.heap.size w wr ∧ l.length = k ∧ (∀ z ∈ l, z < 10000) ∧ -1 ≤ c ∧ c ≤ 9999 ∧
    (val 10000 l : Int) + ((10000 ^ k : Nat) : Int) * c = digSum 10000 d k ∧ (k ≤ n ∨ (c = 0 ∧ k ≤ n + 1))

theorem foldRel_step {n k r : Nat} {d : Nat → Int} {w w1 : World} {c c' : Int} {l : List Nat} {out i' cv : Value}
    (hl : l.length = k) (hd : ∀ z ∈ l, z < 10000) (hv : (val 10000 l : Int) + ((10000 ^ k : Nat) : Int) * c = digSum 10000 d k) (h1 : d k + c = (r : Int) + 10000 * c') (hr : r < 10000) (hc1 : -1 ≤ c') (hc2 : c' ≤ 9999)
    (hin : k < n ∨ c ≠ 0) (hz : ∀ i, n ≤ i → d i = 0) (hb1 : -1 ≤ c) (hb2 : c ≤ 9999) (hS : 0 ≤ digSum 10000 d n) (hkn : k ≤ n ∨ (c = 0 ∧ k ≤ n + 1))
    (hown : OwnL encN 3 w1 w.heap.size out (l ++ [r])) (hB : Below w.heap.size w w1) (hi : i' = .int .i64 ((k + 1 : Nat) : Int)) (hcv : cv = .int .i64 c') : FoldRel n d w cv out i' w1 := by
  refine ⟨k + 1, c', _, hi, hcv, hown, hB, by simp [hl], ?_, hc1, hc2, fold_step hv hl h1, ?_⟩
  · intro z hm
    rcases List.mem_append.1 hm with h | h
    · exact hd z h
    · simp at h; omega
  · by_cases hk : k < n
    · exact .inl hk
    · have hc0 : c ≠ 0 := hin.resolve_left hk
      rcases hkn with h | h
      · have hkn : k = n := by omega
        subst hkn
        have hd0 := hz k (Nat.le_refl _)
        rw [hd0] at h1
        have hcm : c ≠ -1 := by
          intro e; subst e
          exact fold_no_borrow hv hl hd hS
        exact .inr ⟨by omega, Nat.le_refl _⟩
      · exact absurd h.1 hc0

set_option maxRecDepth 100000 in
set_option maxHeartbeats 2000000 in
theorem fold_any (gf : Nat) (p1 p2 : Value) (eg : ∀ args w, (callFunc gf args).run Tryz.prog w = .ok (.enter gf args) w) (n : Nat) (d : Nat → Int) (w : World) (hn : n ≤ 1000) (hd : ∀ i, -9999 ≤ d i ∧ d i ≤ 99980001) (hz : ∀ i, n ≤ i → d i = 0) (hS : 0 ≤ digSum 10000 d n)
    (hg : ∀ (i : Nat) W, i ≤ n + 1 → Below w.heap.size w W → Calls Tryz.prog gf #[.int .i64 i, p1, p2] W fun e W' => e = .returned (.int .i64 (d i)) ∧ Below W.heap.size W W') :
    Calls Tryz.prog 112 #[.int .i64 n, .int .i64 0, .func (.func gf) #[] #[p1, p2]] w fun e w' => ∃ v, e = .returned v ∧ ∃ l, Rd encN w' v l ∧ From w.heap.size v ∧ (∀ z ∈ l, z < 10000) ∧ (val 10000 l : Int) = digSum 10000 d n ∧ Below w.heap.size w w' := by
  have Hg := Lib.hid hg
  have Hd := Lib.hid hd
  have Hz := Lib.hid hz
  have HS := Lib.hid hS
  clear hg hd hz hS
  obtain ⟨i0, hi, hz0, hz1, hz2⟩ := info_parts infoInt
  go_enter Tryz.func112, Tryz.ntmps112
  go_wp2_with (at_make; refine wpList_make_own _ rfl _ _ 98 rfl w.heap.size 3 i0 (.int .i64 0) 1 Tryz.underlying98 hi hz0 hz1 .i64 .i64 _ (n + 1) rfl rfl (by omega) (by rw [hz2]; omega) (by simp only [maxLen]; omega) (Nat.le_refl _) ?_; intro w1 hown1 hgrow1)
  have hB1 : Below w.heap.size w w1 := (Below.refl _ w).grown hgrow1 (Nat.le_refl _) (fun k hk => by cases hk)
  go_loopw [1, 7, 8] (fun carry out i wr => FoldRel n d w carry out i wr) (fun _ _ i _ => (n + 2 - intOf i).toNat)
  case atStart => exact ⟨0, 0, [], rfl, rfl, hown1, hB1, rfl, by simp, by omega, by omega, by simp [val, digSum], .inl (Nat.zero_le _)⟩
  case round =>
    obtain ⟨k, c, l, rfl, rfl, hown, hB, hl, hdg, hc1, hc2, hv, hkn⟩ := hrel
    have Hl := Lib.hid hl; clear hl
    have Hdg := Lib.hid hdg; clear hdg
    have Hv := Lib.hid hv; clear hv
    clear hown1 hgrow1 hB1
    have hbs := hB.size
    by_cases hin : k < n ∨ c ≠ 0
    · have hdk := Hd.out k
      have hlen : l.length ≤ n + 2 := by rw [Hl.out]; omega
      by_cases hkn0 : k < n
      · have hin : k < n ∨ c ≠ 0 := .inl hkn0
        by_cases hneg : d k + c < 0
        ·
          obtain ⟨r, er⟩ : ∃ r : Nat, (d k + c + 10000).toNat = r := ⟨_, rfl⟩
          obtain ⟨q, eq⟩ : ∃ q : Int, (-1) = q := ⟨_, rfl⟩
          have hE := Lib.hid (show d k + c = (r : Int) + 10000 * q by omega)
          have hr1 : r < 10000 := by omega
          have hq1 : q ≤ -1 ∧ -1 ≤ q := by omega
          have Hq := Lib.hid (show -1 ≤ q ∧ q ≤ 9999 by omega)
          obtain ⟨e, he⟩ : ∃ e, d k = e := ⟨_, rfl⟩
          have hgk := fun h1 h2 => Hg.out k wr h1 h2
          rw [he] at hgk hdk
          have he1 : e + c ≤ (r : Int) + 10000 * q := by have := hE.out; omega
          have he2 : (r : Int) + 10000 * q ≤ e + c := by have := hE.out; omega
          have Hgk := Lib.hid hgk
          have Hin := Lib.hid hin
          clear hgk he hin er eq hneg
          go_wp2_with (first | ((with_reducible refine (Hgk.out (by omega) hB).mono ?_); rintro _ w2 ⟨rfl, hb2⟩; have hs2 := hb2.size) | (at_builtin; refine appG rfl _ _ rfl rfl ((hown.belowTo hb2).alloc _) w2.heap.size 1 _ rfl (cell_new1 _ _ _) r (int_eq (by omega)) (by omega) (by simp; omega) ?_; intro v' w3 hown3 hB3))
          go_roundw
          case rel => exact foldRel_step Hl.out Hdg.out Hv.out hE.out hr1 Hq.out.1 Hq.out.2 Hin.out Hz.out hc1 hc2 HS.out hkn hown3 (((hB.trans (hb2.mono hB.size)).alloc (by omega) _).trans hB3) (int_eq (by omega)) (int_eq (by omega))
          case measure => simp [intOf]; omega
        · by_cases hbig : 10000 ≤ d k + c
          ·
            obtain ⟨r, er⟩ : ∃ r : Nat, ((d k + c) % 10000).toNat = r := ⟨_, rfl⟩
            obtain ⟨q, eq⟩ : ∃ q : Int, ((d k + c) / 10000) = q := ⟨_, rfl⟩
            have hE := Lib.hid (show d k + c = (r : Int) + 10000 * q by omega)
            have hr1 : r < 10000 := by omega
            have hq1 : 1 ≤ q := by omega
            have Hq := Lib.hid (show -1 ≤ q ∧ q ≤ 9999 by omega)
            obtain ⟨e, he⟩ : ∃ e, d k = e := ⟨_, rfl⟩
            have hgk := fun h1 h2 => Hg.out k wr h1 h2
            rw [he] at hgk hdk
            have he1 : e + c ≤ (r : Int) + 10000 * q := by have := hE.out; omega
            have he2 : (r : Int) + 10000 * q ≤ e + c := by have := hE.out; omega
            have Hgk := Lib.hid hgk
            have Hin := Lib.hid hin
            clear hgk he hin er eq hneg hbig
            go_wp2_with (first | ((with_reducible refine (Hgk.out (by omega) hB).mono ?_); rintro _ w2 ⟨rfl, hb2⟩; have hs2 := hb2.size) | (at_builtin; refine appG rfl _ _ rfl rfl ((hown.belowTo hb2).alloc _) w2.heap.size 1 _ rfl (cell_new1 _ _ _) r (int_eq (by omega)) (by omega) (by simp; omega) ?_; intro v' w3 hown3 hB3))
            go_roundw
            case rel => exact foldRel_step Hl.out Hdg.out Hv.out hE.out hr1 Hq.out.1 Hq.out.2 Hin.out Hz.out hc1 hc2 HS.out hkn hown3 (((hB.trans (hb2.mono hB.size)).alloc (by omega) _).trans hB3) (int_eq (by omega)) (int_eq (by omega))
            case measure => simp [intOf]; omega
          ·
            obtain ⟨r, er⟩ : ∃ r : Nat, (d k + c).toNat = r := ⟨_, rfl⟩
            obtain ⟨q, eq⟩ : ∃ q : Int, (0 : Int) = q := ⟨_, rfl⟩
            have hE := Lib.hid (show d k + c = (r : Int) + 10000 * q by omega)
            have hr1 : r < 10000 := by omega
            have hq1 : q ≤ 0 ∧ 0 ≤ q := by omega
            have Hq := Lib.hid (show -1 ≤ q ∧ q ≤ 9999 by omega)
            obtain ⟨e, he⟩ : ∃ e, d k = e := ⟨_, rfl⟩
            have hgk := fun h1 h2 => Hg.out k wr h1 h2
            rw [he] at hgk hdk
            have he1 : e + c ≤ (r : Int) + 10000 * q := by have := hE.out; omega
            have he2 : (r : Int) + 10000 * q ≤ e + c := by have := hE.out; omega
            have Hgk := Lib.hid hgk
            have Hin := Lib.hid hin
            clear hgk he hin er eq hneg hbig
            go_wp2_with (first | ((with_reducible refine (Hgk.out (by omega) hB).mono ?_); rintro _ w2 ⟨rfl, hb2⟩; have hs2 := hb2.size) | (at_builtin; refine appG rfl _ _ rfl rfl ((hown.belowTo hb2).alloc _) w2.heap.size 1 _ rfl (cell_new1 _ _ _) r (int_eq (by omega)) (by omega) (by simp; omega) ?_; intro v' w3 hown3 hB3))
            go_roundw
            case rel => exact foldRel_step Hl.out Hdg.out Hv.out hE.out hr1 Hq.out.1 Hq.out.2 Hin.out Hz.out hc1 hc2 HS.out hkn hown3 (((hB.trans (hb2.mono hB.size)).alloc (by omega) _).trans hB3) (int_eq (by omega)) (int_eq (by omega))
            case measure => simp [intOf]; omega
      · have hin : k < n ∨ c ≠ 0 := hin
        have hc0 : ((c : Int) != 0) = true := by rw [bne_iff_ne]; omega
        by_cases hneg : d k + c < 0
        ·
          obtain ⟨r, er⟩ : ∃ r : Nat, (d k + c + 10000).toNat = r := ⟨_, rfl⟩
          obtain ⟨q, eq⟩ : ∃ q : Int, (-1) = q := ⟨_, rfl⟩
          have hE := Lib.hid (show d k + c = (r : Int) + 10000 * q by omega)
          have hr1 : r < 10000 := by omega
          have hq1 : q ≤ -1 ∧ -1 ≤ q := by omega
          have Hq := Lib.hid (show -1 ≤ q ∧ q ≤ 9999 by omega)
          obtain ⟨e, he⟩ : ∃ e, d k = e := ⟨_, rfl⟩
          have hgk := fun h1 h2 => Hg.out k wr h1 h2
          rw [he] at hgk hdk
          have he1 : e + c ≤ (r : Int) + 10000 * q := by have := hE.out; omega
          have he2 : (r : Int) + 10000 * q ≤ e + c := by have := hE.out; omega
          have Hgk := Lib.hid hgk
          have Hin := Lib.hid hin
          clear hgk he hin er eq hneg
          go_wp2_with (first | ((with_reducible refine (Hgk.out (by omega) hB).mono ?_); rintro _ w2 ⟨rfl, hb2⟩; have hs2 := hb2.size) | (at_builtin; refine appG rfl _ _ rfl rfl ((hown.belowTo hb2).alloc _) w2.heap.size 1 _ rfl (cell_new1 _ _ _) r (int_eq (by omega)) (by omega) (by simp; omega) ?_; intro v' w3 hown3 hB3))
          go_roundw
          case rel => exact foldRel_step Hl.out Hdg.out Hv.out hE.out hr1 Hq.out.1 Hq.out.2 Hin.out Hz.out hc1 hc2 HS.out hkn hown3 (((hB.trans (hb2.mono hB.size)).alloc (by omega) _).trans hB3) (int_eq (by omega)) (int_eq (by omega))
          case measure => simp [intOf]; omega
        · by_cases hbig : 10000 ≤ d k + c
          ·
            obtain ⟨r, er⟩ : ∃ r : Nat, ((d k + c) % 10000).toNat = r := ⟨_, rfl⟩
            obtain ⟨q, eq⟩ : ∃ q : Int, ((d k + c) / 10000) = q := ⟨_, rfl⟩
            have hE := Lib.hid (show d k + c = (r : Int) + 10000 * q by omega)
            have hr1 : r < 10000 := by omega
            have hq1 : 1 ≤ q := by omega
            have Hq := Lib.hid (show -1 ≤ q ∧ q ≤ 9999 by omega)
            obtain ⟨e, he⟩ : ∃ e, d k = e := ⟨_, rfl⟩
            have hgk := fun h1 h2 => Hg.out k wr h1 h2
            rw [he] at hgk hdk
            have he1 : e + c ≤ (r : Int) + 10000 * q := by have := hE.out; omega
            have he2 : (r : Int) + 10000 * q ≤ e + c := by have := hE.out; omega
            have Hgk := Lib.hid hgk
            have Hin := Lib.hid hin
            clear hgk he hin er eq hneg hbig
            go_wp2_with (first | ((with_reducible refine (Hgk.out (by omega) hB).mono ?_); rintro _ w2 ⟨rfl, hb2⟩; have hs2 := hb2.size) | (at_builtin; refine appG rfl _ _ rfl rfl ((hown.belowTo hb2).alloc _) w2.heap.size 1 _ rfl (cell_new1 _ _ _) r (int_eq (by omega)) (by omega) (by simp; omega) ?_; intro v' w3 hown3 hB3))
            go_roundw
            case rel => exact foldRel_step Hl.out Hdg.out Hv.out hE.out hr1 Hq.out.1 Hq.out.2 Hin.out Hz.out hc1 hc2 HS.out hkn hown3 (((hB.trans (hb2.mono hB.size)).alloc (by omega) _).trans hB3) (int_eq (by omega)) (int_eq (by omega))
            case measure => simp [intOf]; omega
          ·
            obtain ⟨r, er⟩ : ∃ r : Nat, (d k + c).toNat = r := ⟨_, rfl⟩
            obtain ⟨q, eq⟩ : ∃ q : Int, (0 : Int) = q := ⟨_, rfl⟩
            have hE := Lib.hid (show d k + c = (r : Int) + 10000 * q by omega)
            have hr1 : r < 10000 := by omega
            have hq1 : q ≤ 0 ∧ 0 ≤ q := by omega
            have Hq := Lib.hid (show -1 ≤ q ∧ q ≤ 9999 by omega)
            obtain ⟨e, he⟩ : ∃ e, d k = e := ⟨_, rfl⟩
            have hgk := fun h1 h2 => Hg.out k wr h1 h2
            rw [he] at hgk hdk
            have he1 : e + c ≤ (r : Int) + 10000 * q := by have := hE.out; omega
            have he2 : (r : Int) + 10000 * q ≤ e + c := by have := hE.out; omega
            have Hgk := Lib.hid hgk
            have Hin := Lib.hid hin
            clear hgk he hin er eq hneg hbig
            go_wp2_with (first | ((with_reducible refine (Hgk.out (by omega) hB).mono ?_); rintro _ w2 ⟨rfl, hb2⟩; have hs2 := hb2.size) | (at_builtin; refine appG rfl _ _ rfl rfl ((hown.belowTo hb2).alloc _) w2.heap.size 1 _ rfl (cell_new1 _ _ _) r (int_eq (by omega)) (by omega) (by simp; omega) ?_; intro v' w3 hown3 hB3))
            go_roundw
            case rel => exact foldRel_step Hl.out Hdg.out Hv.out hE.out hr1 Hq.out.1 Hq.out.2 Hin.out Hz.out hc1 hc2 HS.out hkn hown3 (((hB.trans (hb2.mono hB.size)).alloc (by omega) _).trans hB3) (int_eq (by omega)) (int_eq (by omega))
            case measure => simp [intOf]; omega
    · have h1 : ¬ k < n := fun h => hin (.inl h)
      obtain rfl : c = 0 := by omega
      go_wp2
      go_ret
      refine ⟨_, rfl, l, hown.rd, hown.from, Hdg.out, ?_, hB⟩
      rw [fold_end Hv.out]
      exact digSum_zero_from Hz.out k (by omega)
end Go.Proofs.YtgeoidnleagloaaGreatDoor
