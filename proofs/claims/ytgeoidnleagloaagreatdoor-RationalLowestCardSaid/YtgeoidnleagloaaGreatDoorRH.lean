/- Walks of the reference's integer functions: division of digits. -/
import Derived.Test.YtgeoidnleagloaaGreatDoorRG
import Derived.Test.YtgeoidnleagloaaGreatDoorWL
import Derived.Test.YtgeoidnleagloaaGreatDoorPL
set_option linter.unusedVariables false
set_option linter.unusedSimpArgs false
namespace Go.Proofs.YtgeoidnleagloaaGreatDoor
open Go.RowKit Yk

/-- What an outer round of 'divided' keeps. -/
def DivOut (x y N : Nat) (w : World) (g : Nat) (rv i : Value) (wr : World) : Prop :=
  ∃ (j R : Nat) (q : List Nat), i = .int .i64 ((j : Int) - 1) ∧ Rd encN wr rv (digs 10 R) ∧ From w.heap.size rv ∧ OwnL encN 3 wr w.heap.size (.slice (some ⟨g, 0, none⟩) N N) q ∧ Below w.heap.size w wr ∧ DivInv 10 x y j R q ∧ j ≤ N
/-- What an inner round keeps. -/
def DivIn (x y N : Nat) (w : World) (g : Nat) (j d R : Nat) (q : List Nat) (rv : Value) (wr : World) : Prop :=
  ∃ (t R2 : Nat), Rd encN wr rv (digs 10 R2) ∧ From w.heap.size rv ∧ OwnL encN 3 wr w.heap.size (.slice (some ⟨g, 0, none⟩) N N) (q.set j t) ∧ Below w.heap.size w wr ∧ R2 + t * y = d + 10 * R ∧ t ≤ 9
/-- How much of the remainder a slot in memory still holds. -/
noncomputable def restOf (wr : World) (rv : Value) : Nat := open Classical in if h : ∃ R, Rd encN wr rv (digs 10 R) then h.choose else 0
theorem rd_length {wr : World} {rv : Value} {l m : List Nat} (h1 : Rd encN wr rv l) (h2 : Rd encN wr rv m) : l = m := by
  obtain ⟨a, c, rfl, _, _, k1⟩ := h1.open'
  obtain ⟨a2, c2, e, _, _, k2⟩ := h2.open'
  injection e with e1 e2 e3
  subst e1
  refine List.ext_getElem e2 fun i hi hi2 => ?_
  obtain ⟨b, off, ha, _, hc⟩ := k1 i hi
  obtain ⟨b2, off2, ha2, _, hc2⟩ := k2 i hi2
  rw [ha] at ha2
  injection ha2 with ha2; injection ha2 with e4 e5
  subst e4; subst e5
  rw [hc] at hc2
  simp only [Option.some.injEq, encN, Value.int.injEq, true_and] at hc2
  omega
theorem restOf_eq {wr : World} {rv : Value} {R : Nat} (h : Rd encN wr rv (digs 10 R)) : restOf wr rv = R := by
  have h2 : ∃ R, Rd encN wr rv (digs 10 R) := ⟨R, h⟩
  unfold restOf
  rw [dif_pos h2]
  exact digs_inj (B := 10) (by decide) (rd_length h2.choose_spec h)

theorem cmpN_ge0 {x y : Nat} (h : y ≤ x) : decide (0 ≤ cmpN x y) = true := by
  have : ¬ x < y := by omega
  simp only [cmpN, this, if_false, decide_eq_true_eq]
  split <;> decide
theorem cmpN_lt0 {x y : Nat} (h : x < y) : decide (0 ≤ cmpN x y) = false := by rw [cmpN_lt h]; rfl
theorem div_count {B R2 t y d R : Nat} (h : R2 + t * y = d + B * R) (h1 : y ≤ R2) (hd : d < B) (hR : R < y) : t + 1 < B := by
  have e : (t + 1) * y = t * y + y := Nat.succ_mul t y
  have h2 : B * (R + 1) ≤ B * y := Nat.mul_le_mul_left B hR
  rw [Nat.mul_add] at h2
  exact Nat.lt_of_mul_lt_mul_right (a := y) (by omega)
theorem divIn_eq {B R2 t y d R : Nat} (h : R2 + t * y = d + B * R) (h1 : y ≤ R2) : (R2 - y) + (t + 1) * y = d + B * R := by
  have e : (t + 1) * y = t * y + y := Nat.succ_mul t y
  omega

set_option maxRecDepth 100000 in
theorem refDivided_any (x y : Nat) (hy0 : 0 < y) (va vb : Value) (w : World) (ha : Rd encN w va (digs 10 x)) (hb : Rd encN w vb (digs 10 y)) (hx : (digs 10 x).length ≤ 900) (hy : (digs 10 y).length ≤ 900) :
    Calls Tryz.prog 92 #[va, vb] w fun e w' => ∃ v1 v2, e = .returned (.tuple #[v1, v2]) ∧ Rd encN w' v1 (digs 10 (x / y)) ∧ Rd encN w' v2 (digs 10 (x % y)) ∧ From w.heap.size v1 ∧ From w.heap.size v2 ∧ Below w.heap.size w w' := by
  obtain ⟨aa, ca, rfl, hca, hca2, hcella⟩ := ha.open'
  have Hca := Lib.hid hcella; clear hcella
  have Hb := Lib.hid hb
  clear ha hb
  obtain ⟨n, hn⟩ : ∃ n, (digs 10 x).length = n := ⟨_, rfl⟩
  have Hn := Lib.hid hn
  rw [hn] at hca hx ⊢
  clear hn
  go_enter Tryz.func92, Tryz.ntmps92
  go_wp2_with (at_make; refine wpList_makeN (enc := encN) (e := 3) (B := w.heap.size) rfl _ _ 53 rfl 0 8 Tryz.underlying53 infoInt rfl .i64 .i64 _ _ n rfl rfl rfl rfl (by omega) (by decide) (Nat.le_refl _) ?_; intro w1 hown1 hB1)
  go_loopw [7, 8] (fun rv i wr => DivOut x y n w w.heap.size rv i wr) (fun _ i _ => (intOf i + 1).toNat)
  case atStart => exact ⟨n, 0, _, rfl, .inl ⟨rfl, digs_zero 10⟩, From.nil _, hown1, hB1, by rw [← Hn.out]; exact DivInv.start hy0, Nat.le_refl _⟩
  case round =>
    obtain ⟨j, R, q, rfl, hr, hfr, hown, hB, hinv, hjn⟩ := hrel
    have Hinv := Lib.hid hinv; clear hinv
    have Hr := Lib.hid hr; clear hr
    have Hown := Lib.hid hown; clear hown
    clear hown1 hB1
    cases j with
    | zero =>
      go_wp2_with (go_at_call 83; refine (refTrim_any q (Hinv.out.digits (by decide)) _ _ Hown.out.rd).mono ?_; rintro e w1 ⟨v1, rfl, hr1, hf1, hb1⟩)
      go_ret2
      have e1 := Hinv.out.done (by decide)
      refine ⟨_, _, rfl, ?_, ?_, hf1 _ Hown.out.from, hfr, hB.trans (hb1.mono hB.size)⟩
      · rw [← e1.1]; exact hr1
      · rw [← e1.2]; exact Hr.out.below hb1
    | succ j =>
      obtain ⟨ba, oa, rfl, hba, hc1⟩ := Hca.out j (by rw [Hn.out]; omega)
      have k1 := (hB.cell (p := ⟨ba, oa + j, none⟩) hba).trans hc1
      obtain ⟨d, ed⟩ : ∃ d, (digs 10 x)[j]'(by rw [Hn.out]; omega) = d := ⟨_, rfl⟩
      have hd : d < 10 := by rw [← ed]; exact digs_lt (by decide) x _ (List.getElem_mem _)
      rw [ed] at k1
      have Ed := Lib.hid ed
      clear hc1 ed
      have hRy : R < y := by obtain ⟨_, _, _, _, _, h⟩ := Hinv.out; exact h
      have hRl := digs_length_mono (B := 10) (by decide) (Nat.le_of_lt hRy)
      have hld : ∀ z ∈ [d] ++ digs 10 R, z < 10 := by
        intro z hz
        rcases List.mem_append.1 hz with h | h
        · simp at h; omega
        · exact digs_lt (by decide) R z h
      have Hld := Lib.hid hld; clear hld
      have hbs := hB.size
      go_wp2_with (first | (at_builtin; refine wpList_appRd (enc := encN) (e := 3) rfl _ _ 53 rfl (.int .i64 0) 8 Tryz.underlying53 infoInt rfl encN_one rfl (OwnL.lit1 wr d rfl) rfl (Hr.out.below ((Below.refl _ _).alloc (Nat.le_refl _) _)) (by simp; omega) (by decide) (by simp) ?_; intro v' w1 hown1 hB1) | (go_at_call 83; refine (refTrim_any ([d] ++ digs 10 R) Hld.out _ _ hown1.rd).mono ?_; rintro e w2 ⟨v2, rfl, hr2, hf2, hb2⟩))
      rw [shift_val (by decide) hd] at hr2
      have hb12 : Below wr.heap.size wr w2 := (((Below.refl _ _).alloc (Nat.le_refl _) _).trans hB1).trans (hb2.mono (by have := hB1.size; simp at this; omega))
      have hownq : OwnL encN 3 w2 w.heap.size (.slice (some ⟨w.heap.size, 0, none⟩) n n) (q.set j 0) := by
        have e0 : q.set j 0 = q := by
          have hjq : j < q.length := by rw [Hinv.out.length, Hn.out]; omega
          have e1 := Hinv.out.zero hjq
          apply List.ext_getElem (by simp)
          intro i h1 h2
          rw [List.getElem_set]
          split
          · rename_i e; subst e; exact e1.symm
          · rfl
        rw [e0]; exact Hown.out.belowTo hb12
      have hB2 : Below w.heap.size w w2 := hB.trans (hb12.mono hB.size)
      have hql : q.length = n := by rw [Hinv.out.length, Hn.out]
      have Hql := Lib.hid hql; clear hql
      have hown1f := hown1.from
      clear k1 hown1 hB1 hb2 hb12
      go_loopw [7] (fun rv wr => DivIn x y n w w.heap.size j d R q rv wr) (fun rv wr => restOf wr rv)
      case atStart => exact ⟨0, _, hr2, (hf2 _ hown1f).mono hB.size, hownq, hB2, by omega, by omega⟩
      case round =>
        obtain ⟨t, R2, hr3, hfr3, hown3, hB3, hv3, ht⟩ := hrel
        have Hv3 := Lib.hid hv3; clear hv3
        clear hr2 hownq hB2 hbs
        have hR2l : (digs 10 R2).length ≤ (digs 10 y).length + 1 := by
          have h1 := digs_length_mono (B := 10) (by decide) (show R2 ≤ d + 10 * R by have := Hv3.out; omega)
          have h2 := digs_length_shift (B := 10) (by decide) hd hRy
          omega
        have hb3 := Hb.out.below (hB3.mono (Nat.le_refl _))
        by_cases hge : y ≤ R2
        · have hcmp := cmpN_ge0 hge
          have Ht := Lib.hid (div_count Hv3.out hge hd hRy)
          go_wp2_with (first | (go_at_call 95; refine (refOrder_any R2 y _ _ _ hr3 hb3).mono ?_; rintro e w4 ⟨rfl, hb4⟩) | (go_at_call 94; refine (refMinus_any R2 y hge _ _ _ (hr3.below hb4) (hb3.below hb4) (by omega)).mono ?_; rintro e w5 ⟨v5, rfl, hr5, hf5, hb5⟩; have k3 := ((hown3.belowTo hb4).belowTo hb5).cell j (by rw [List.length_set, Hql.out]; omega); have k4 := ((hown3.belowTo hb4).belowTo hb5).free j; rw [List.getElem_set_self] at k3))
          have ho5 := (hown3.belowTo hb4).belowTo hb5
          have hB5 : Below w.heap.size w w5 := (hB3.trans (hb4.mono hB3.size)).trans (hb5.mono (Nat.le_trans hB3.size hb4.size))
          have hr6 : Rd encN (w5.setCell ⟨w.heap.size, j, none⟩ (.int .i64 ((t : Int) + 1))) v5 (digs 10 (R2 - y)) := hr5.setCell hf5 (by have := hown3.row.2.2.1; have := hb4.size; simp; omega) _
          go_roundw
          case rel =>
            refine ⟨t + 1, R2 - y, hr6, hf5.mono (Nat.le_trans hB3.size hb4.size), ?_, hB5.setCell (Nat.le_refl _) _, divIn_eq Hv3.out hge, by have := Ht.out; omega⟩
            have h7 := ho5.set j (by rw [List.length_set, Hql.out]; omega) (t + 1) (u := .int .i64 ((t : Int) + 1)) (int_eq (by omega))
            rwa [List.set_set] at h7
          case measure => rw [restOf_eq hr6, restOf_eq hr3]; omega
        · have hcmp := cmpN_lt0 (show R2 < y by omega)
          go_wp2_with (go_at_call 95; refine (refOrder_any R2 y _ _ _ hr3 hb3).mono ?_; rintro e w4 ⟨rfl, hb4⟩)
          go_roundw
          case rel =>
            refine ⟨j, R2, _, by go_num, hr3.below hb4, hfr3, hown3.belowTo hb4, hB3.trans (hb4.mono hB3.size), Hinv.out.step (by rw [Hn.out]; omega) Ed.out Hv3.out (by omega) (by omega), by omega⟩
          case measure => simp [intOf]
end Go.Proofs.YtgeoidnleagloaaGreatDoor
