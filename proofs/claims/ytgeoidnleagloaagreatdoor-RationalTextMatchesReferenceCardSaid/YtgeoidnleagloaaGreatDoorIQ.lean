/- Walks of package integer: Div whole, Gcd. -/
import Derived.Test.YtgeoidnleagloaaGreatDoorIP
set_option linter.unusedVariables false
set_option linter.unusedSimpArgs false
namespace Go.Proofs.YtgeoidnleagloaaGreatDoor
open Go.RowKit Yk

/-- Three results of a division. -/
abbrev vDivI (r : ByteArray × ByteArray × Int) : Value := .tuple #[.string r.1, .string r.2.1, .int .i64 r.2.2]
theorem iDivNo {a b : ByteArray} (h : (vS a && vS b) = false ∨ nS b = 0) : iDiv a b = (ByteArray.empty, ByteArray.empty, 30) := by
  unfold iDiv
  rcases h with h | h
  · rw [h]; rfl
  · simp [h]
theorem iDivYes {a b : ByteArray} (ha : vS a = true) (hb : vS b = true) (h : nS b ≠ 0) : iDiv a b = (ofI (nS a / nS b), ofI (nS a % nS b), 0) := by simp [iDiv, ha, hb, h]

set_option maxRecDepth 100000 in
theorem intDiv_any (a b : ByteArray) (w : World) (hg : Glob w) (hsa : a.size ≤ maxLen) (hsb : b.size ≤ maxLen) :
    Calls Tryz.prog 58 #[.string a, .string b] w fun e w' => e = .returned (vDivI (iDiv a b)) ∧ Below w.heap.size w w' := by
  by_cases h : (vS a && vS b) = true
  · obtain ⟨ha, hb⟩ := both_vals h
    have hB := Lib.hid (fun w => both_yes a b ha hb w)
    have hna := nS_sgn a
    have hnb := nS_sgn b
    by_cases h0 : nS b = 0
    · rw [iDivNo (.inr h0)]
      have hy : (nS b).natAbs = 0 := by rw [h0]; rfl
      rw [hy] at hB
      generalize negB a.data.toList = na at *
      generalize negB b.data.toList = nb at *
      generalize (nS a).natAbs = x at *
      rw [digs_zero] at hB
      clear h ha hb hna hnb h0 hy hg hsa hsb
      go_enter Tryz.func58, Tryz.ntmps58
      go_wp2_with fail
      (with_reducible refine (hB.out _).mono ?_); rintro e w1 ⟨v1, v2, rfl, hr1, hr2, hf1, hf2, hb1⟩
      obtain ⟨a1, k1, rfl, _⟩ := hr1.open'
      obtain ⟨a2, k2, rfl, _⟩ := hr2.open'
      have HB := Lib.hid hb1
      clear hr1 hr2 hf1 hf2 hb1
      go_wp2
      go_ret3
      refine ⟨rfl, ?_⟩
      have := HB.out.size
      exact (HB.out.alloc (by omega) _).alloc (by simp; omega) _
    · rw [iDivYes ha hb h0]
      have hy0 : 0 < (nS b).natAbs := by omega
      have hxB := nS_lt ha
      have hyB := nS_lt hb
      have key : Calls Tryz.prog 58 #[.string a, .string b] w (DivPost (nS a / nS b) (nS a % nS b) w) := by
        rw [hna, hnb]
        cases hn : negB a.data.toList
        · exact div_pos _ _ _ hy0 hxB hyB a b w hg (by rw [hn] at hB; exact hB)
        · by_cases hr : (nS a).natAbs % (nS b).natAbs = 0
          · exact div_zero _ _ _ hy0 hr hxB hyB a b w hg (by rw [hn] at hB; exact hB)
          · exact div_rest _ _ _ hy0 hr hxB hyB a b w hg (by rw [hn] at hB; exact hB)
      exact key
  · rw [iDivNo (.inl (Bool.not_eq_true _ ▸ h))]
    have hB := Lib.hid (fun w => both_no a b (Bool.not_eq_true _ ▸ h) w hsa hsb)
    clear h hsa hsb hg
    go_enter Tryz.func58, Tryz.ntmps58
    go_wp2_with fail
    (with_reducible refine (hB.out _).mono ?_); rintro e w1 ⟨rfl, hb1⟩
    have HB := Lib.hid hb1
    clear hb1
    go_wp2
    go_ret3
    refine ⟨rfl, ?_⟩
    have := HB.out.size
    exact (HB.out.alloc (by omega) _).alloc (by simp; omega) _

theorem rd_inj {w : World} {v : Value} {l m : List Nat} (h : Rd encN w v l) (k : Rd encN w v m) : l = m := by
  rcases h with ⟨rfl, rfl⟩ | ⟨b, off, cap, rfl, h1, h2, h3, h4⟩
  · rcases k with ⟨_, rfl⟩ | ⟨b, off, cap, e, _⟩
    · rfl
    · cases e
  · rcases k with ⟨e, _⟩ | ⟨b', off', cap', e, k1, k2, k3, k4⟩
    · cases e
    · injection e with e1 e2 e3
      injection e1 with e1; injection e1 with e4 e5
      subst e4; subst e5
      refine List.ext_getElem e2 fun i i1 i2 => ?_
      have q1 := h4 i _ (List.getElem?_eq_getElem i1)
      have q2 := k4 i _ (List.getElem?_eq_getElem i2)
      rw [q1] at q2
      have q3 : ((l[i] : Nat) : Int) = (m[i] : Nat) := by simpa [encN] using q2
      omega
/-- The number that a slice is. -/
noncomputable def numOf (wr : World) (v : Value) : Nat := open Classical in if h : ∃ R, Rd encN wr v (digs 10000 R) then h.choose else 0
theorem numOf_eq {wr : World} {v : Value} {R : Nat} (h : Rd encN wr v (digs 10000 R)) : numOf wr v = R := by
  have he : ∃ R, Rd encN wr v (digs 10000 R) := ⟨R, h⟩
  unfold numOf
  rw [dif_pos he]
  exact digs_inj (by decide) (rd_inj he.choose_spec h)
/-- What a round of 'Gcd' keeps. -/
def GcdI (g : Nat) (w : World) (kv lv : Value) (wr : World) : Prop :=
  ∃ (x y : Nat) (a1 : Option Addr) (c1 : Nat) (a : Option Addr) (c : Nat), kv = .slice a1 (digs 10000 x).length c1 ∧ lv = .slice a (digs 10000 y).length c ∧ Rd encN wr kv (digs 10000 x) ∧ Rd encN wr lv (digs 10000 y) ∧ Below w.heap.size w wr ∧ Nat.gcd x y = g ∧ x < BIG ∧ y < BIG
theorem gcd_lt {x y : Nat} (hx : x < BIG) (hy : y < BIG) : Nat.gcd x y < BIG := by
  by_cases h : x = 0
  · subst h; simpa using hy
  · exact Nat.lt_of_le_of_lt (Nat.gcd_le_left y (by omega)) hx
theorem iGcdYes {a b : ByteArray} (ha : vS a = true) (hb : vS b = true) : iGcd a b = (ofI (Nat.gcd (nS a).natAbs (nS b).natAbs), 0) := by simp [iGcd, ha, hb, Int.gcd]

set_option maxRecDepth 100000 in
set_option maxHeartbeats 1000000 in
theorem intGcd_any (a b : ByteArray) (w : World) (hg : Glob w) (hsa : a.size ≤ maxLen) (hsb : b.size ≤ maxLen) :
    Calls Tryz.prog 51 #[.string a, .string b] w fun e w' => e = .returned (.tuple #[.string (iGcd a b).1, .int .i64 (iGcd a b).2]) ∧ Below w.heap.size w w' := by
  by_cases h : (vS a && vS b) = true
  · obtain ⟨ha, hb⟩ := both_vals h
    rw [iGcdYes ha hb]
    have hB := Lib.hid (fun w => both_yes a b ha hb w)
    have hxB := nS_lt ha
    have hyB := nS_lt hb
    generalize negB a.data.toList = na at *
    generalize negB b.data.toList = nb at *
    generalize (nS a).natAbs = x0 at *
    generalize (nS b).natAbs = y0 at *
    obtain ⟨g, hgg⟩ : ∃ g, Nat.gcd x0 y0 = g := ⟨_, rfl⟩
    have hgB := gcd_lt hxB hyB
    rw [hgg] at hgB ⊢
    have HGB := Lib.hid (chkI_ok (s := sgn false g) (by rw [sgn_abs]; exact hgB))
    have Hgg := Lib.hid hgg
    have Hg := Lib.hid hg
    clear h ha hb hg hsa hsb hgg
    have hmx : Tryz.prog.follows .mixedOrders = true := by kernel_rfl
    go_enter Tryz.func51, Tryz.ntmps51
    go_wp2_with fail
    (with_reducible refine (hB.out _).mono ?_); rintro e w1 ⟨v1, v2, rfl, hr1, hr2, hf1, hf2, hb1⟩
    obtain ⟨a1, k1, rfl, _⟩ := hr1.open'
    obtain ⟨a2, k2, rfl, _⟩ := hr2.open'
    have H1 := Lib.hid hr1
    have H2 := Lib.hid hr2
    have HB := Lib.hid hb1
    have hs1 := hb1.size
    clear hr1 hr2 hf1 hf2 hb1
    have hbl : ∀ o1 o2, Below w1.heap.size w1 ((w1.alloc o1).alloc o2) := fun o1 o2 => ((Below.refl _ _).alloc (Nat.le_refl _) _).alloc (by simp) _
    have Hbl := Lib.hid hbl
    clear hbl
    go_wp2_with fail
    have rb := Hbl.out (.cells #[.bool na, .slice a1 (digs 10000 x0).length k1] 100) (.cells #[.bool nb, .slice a2 (digs 10000 y0).length k2] 100)
    have RB := Lib.hid rb
    clear rb
    go_quiet (fail)
    have RB2 := Lib.hid (RB.out.drewN nq)
    have HB2 := Lib.hid (HB.out.trans (RB2.out.mono hs1))
    have H1' := Lib.hid (H1.out.below RB2.out)
    have H2' := Lib.hid (H2.out.below RB2.out)
    clear H1 H2 RB RB2 Hbl
    generalize (((w1.alloc (Obj.cells #[Value.bool na, Value.slice a1 (digs 10000 x0).length k1] 100)).alloc (Obj.cells #[Value.bool nb, Value.slice a2 (digs 10000 y0).length k2] 100)).drewN nq) = W0 at *
    go_wp2
    go_loopw [9, 10] (fun kv lv wr => GcdI g w kv lv wr) (fun _ lv wr => numOf wr lv)
    case atStart => exact ⟨x0, y0, _, _, _, _, rfl, rfl, H1'.out, H2'.out, HB2.out, Hgg.out, hxB, hyB⟩
    case round =>
      obtain ⟨x, y, p1, q1, p2, q2, rfl, rfl, hrx, hry, hB3, hgx, hxb, hyb⟩ := hrel
      have Hx := Lib.hid hrx
      have Hy := Lib.hid hry
      have Hgx := Lib.hid hgx
      have hs3 := hB3.size
      have Hlx := Lib.hid (digs_len_BIG hxb)
      have Hly := Lib.hid (digs_len_BIG hyb)
      clear hrx hry hgx
      by_cases hy0 : y = 0
      · subst hy0
        have hz : (digs 10000 0).length = 0 := by rw [digs_zero]; rfl
        have e1 : g = x := by rw [← Hgx.out]; simp
        subst e1
        simp only [hz]
        clear hz
        go_wp2_with fail
        refine (text_any _ _ _ _ Hx.out (Hg.out.below hB3) (by have := Hlx.out; omega)).mono ?_
        rw [HGB.out]
        rintro e W6 ⟨rfl, hb6⟩
        have HB6 := Lib.hid (hB3.trans (hb6.mono hs3))
        clear hb6
        go_wp2
        go_ret2
        exact ⟨rfl, HB6.out⟩
      · have hl0 : 0 < (digs 10000 y).length := List.length_pos_iff.2 (fun e => hy0 ((digs_eq_nil (by decide)).1 e))
        obtain ⟨ny, hny⟩ : ∃ n, (digs 10000 y).length = n := ⟨_, rfl⟩
        rw [hny] at hl0
        have Hny := Lib.hid hny
        have Hy0 := Lib.hid hy0
        rw [hny] at Hy
        simp only [hny]
        clear hny hy0
        go_wp2_with fail
        refine (numOver_any x y (by have := Hy0.out; omega) _ _ _ Hx.out Hy.out (by have := Hlx.out; omega) (by have := Hly.out; omega) (from_own Hx.out)).mono ?_
        rintro e W2 ⟨v3, v4, rfl, hr3, hr4, hf3, hf4, hb2⟩
        obtain ⟨a4, k4, rfl, _⟩ := hr4.open'
        have HR4 := Lib.hid hr4
        have Hy2 := Lib.hid (Hy.out.below hb2)
        have HB6 := Lib.hid (hB3.trans (hb2.mono hs3))
        clear hr3 hr4 hf3 hf4 hb2
        go_wp2
        go_roundw
        case rel =>
          refine ⟨y, x % y, _, _, _, _, by rw [Hny.out], rfl, Hy2.out, HR4.out, HB6.out, ?_, hyb, ?_⟩
          · rw [← Hgx.out, Nat.gcd_comm x y, Nat.gcd_rec y x, Nat.gcd_comm]
          · have := Nat.mod_lt x (show y > 0 by have := Hy0.out; omega); omega
        case measure =>
          rw [numOf_eq HR4.out, numOf_eq Hy.out]
          exact Nat.mod_lt x (by have := Hy0.out; omega)
  · have hr : iGcd a b = (ByteArray.empty, 30) := by unfold iGcd; rw [if_neg h]
    rw [hr]
    have hB := Lib.hid (fun w => both_no a b (Bool.not_eq_true _ ▸ h) w hsa hsb)
    clear h hr hsa hsb hg
    go_enter Tryz.func51, Tryz.ntmps51
    go_wp2_with fail
    (with_reducible refine (hB.out _).mono ?_); rintro e w1 ⟨rfl, hb1⟩
    have HB := Lib.hid hb1
    clear hb1
    go_wp2
    go_ret2
    refine ⟨rfl, ?_⟩
    have := HB.out.size
    exact (HB.out.alloc (by omega) _).alloc (by simp; omega) _
end Go.Proofs.YtgeoidnleagloaaGreatDoor
