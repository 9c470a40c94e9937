/- Walks of the reference's integer functions: division whole, the greatest common divisor, machine integers. -/
import Derived.Test.YtgeoidnleagloaaGreatDoorRM
set_option linter.unusedVariables false
set_option linter.unusedSimpArgs false
namespace Go.Proofs.YtgeoidnleagloaaGreatDoor
open Go.RowKit Yk

/-- Three results of a division. -/
abbrev vDiv (r : ByteArray × ByteArray × Int) : Value := .tuple #[.string r.1, .string r.2.1, .int .i64 r.2.2]
theorem iDiv_no {a b : ByteArray} (h : vS a = false ∨ vS b = false ∨ nS b = 0) : iDiv a b = (ByteArray.empty, ByteArray.empty, 30) := by
  unfold iDiv
  rcases h with h | h | h <;> simp [h]
theorem iDiv_yes {a b : ByteArray} (ha : vS a = true) (hb : vS b = true) (h : nS b ≠ 0) : iDiv a b = (ofI (nS a / nS b), ofI (nS a % nS b), 0) := by simp [iDiv, ha, hb, h]

set_option maxRecDepth 100000 in
theorem refDiv_any (a b : ByteArray) (w : World) (hsa : a.size ≤ maxLen) (hsb : b.size ≤ maxLen) :
    Calls Tryz.prog 66 #[.string a, .string b] w fun e w' => e = .returned (vDiv (iDiv a b)) ∧ Below w.heap.size w w' := by
  by_cases ha : vS a = true
  · by_cases hb : vS b = true
    · by_cases h0 : nS b = 0
      · rw [iDiv_no (.inr (.inr h0))]
        have hva : vld a.data.toList = true := ha
        have hvb : vld b.data.toList = true := hb
        have hz : (b.toList == [48]) = true := by rw [zero_text hb]; simp [h0]
        clear ha hb h0
        go_enter Tryz.func66, Tryz.ntmps66
        go_wp2_with (go_at_call 53; refine (refValid_any _ _ (by assumption)).mono ?_; rintro e w0 ⟨rfl, rfl⟩)
        go_ret3
        exact ⟨rfl, Below.refl _ _⟩
      · rw [iDiv_yes ha hb h0]
        have hn0 : 0 < (nS b).natAbs := by omega
        have eb := nS_sgn b
        have ea := nS_sgn a
        cases hx : negB a.data.toList
        · rw [hx] at ea
          have h := div_sizes_pos (nS a).natAbs (negB b.data.toList) (nS b).natAbs
          rw [← eb, show ((nS a).natAbs : Int) = nS a by rw [ea]; simp [sgn]] at h
          rw [h.1, h.2]
          exact refDiv_falseany a b w ha hb h0 hx
        · rw [hx] at ea
          have h := div_sizes_neg (x := (nS a).natAbs) hn0 (negB b.data.toList)
          rw [← eb, show -((nS a).natAbs : Int) = nS a by rw [ea]; simp [sgn]] at h
          rw [h.1, h.2]
          by_cases hr : (nS a).natAbs % (nS b).natAbs = 0
          · have := refDiv_truezero a b w ha hb h0 hx hr
            rw [hr] at this
            rw [if_pos hr, if_pos hr]
            exact this
          · rw [if_neg hr, if_neg hr]
            exact refDiv_truepos a b w ha hb h0 hx hr
    · rw [iDiv_no (.inr (.inl (by simpa using hb)))]
      have hva : vld a.data.toList = true := ha
      have hvb : vld b.data.toList = false := by simpa [vS] using hb
      clear ha hb
      go_enter Tryz.func66, Tryz.ntmps66
      go_wp2_with (go_at_call 53; refine (refValid_any _ _ (by assumption)).mono ?_; rintro e w0 ⟨rfl, rfl⟩)
      go_ret3
      exact ⟨rfl, Below.refl _ _⟩
  · rw [iDiv_no (.inl (by simpa using ha))]
    have hva : vld a.data.toList = false := by simpa [vS] using ha
    clear ha
    go_enter Tryz.func66, Tryz.ntmps66
    go_wp2_with (go_at_call 53; refine (refValid_any _ _ (by assumption)).mono ?_; rintro e w0 ⟨rfl, rfl⟩)
    go_ret3
    exact ⟨rfl, Below.refl _ _⟩

/-- What a round of 'Gcd' keeps. -/
def GcdRel (g : Nat) (w : World) (kv lv : Value) (wr : World) : Prop :=
  ∃ (x y : Nat) (a : Option Addr) (c : Nat), lv = .slice a (digs 10 y).length c ∧ Rd encN wr kv (digs 10 x) ∧ Rd encN wr lv (digs 10 y) ∧ Below w.heap.size w wr ∧ Nat.gcd x y = g ∧ (digs 10 x).length ≤ 200 ∧ (digs 10 y).length ≤ 200
theorem gcd_lt_BIG {x y : Nat} (hx : x < BIG) (hy : y < BIG) : Nat.gcd x y < BIG := by
  by_cases h : x = 0
  · subst h; simpa using hy
  · exact Nat.lt_of_le_of_lt (Nat.gcd_le_left y (by omega)) hx
theorem iGcd_yes {a b : ByteArray} (ha : vS a = true) (hb : vS b = true) : iGcd a b = (ofI (sgn false (Nat.gcd (nS a).natAbs (nS b).natAbs)), 0) := by simp [iGcd, ha, hb, sgn, Int.gcd]
theorem iGcd_no {a b : ByteArray} (h : vS a = false ∨ vS b = false) : iGcd a b = (ByteArray.empty, 30) := by
  unfold iGcd
  rcases h with h | h <;> simp [h]

set_option maxRecDepth 100000 in
theorem refGcd_any (a b : ByteArray) (w : World) (hsa : a.size ≤ maxLen) (hsb : b.size ≤ maxLen) :
    Calls Tryz.prog 71 #[.string a, .string b] w fun e w' => e = .returned (vSE (iGcd a b)) ∧ Below w.heap.size w w' := by
  by_cases ha : vS a = true
  · by_cases hb : vS b = true
    · rw [iGcd_yes ha hb]
      have hva : vld a.data.toList = true := ha
      have hvb : vld b.data.toList = true := hb
      have hla := digs_len_200 (nS_lt ha)
      have hlb := digs_len_200 (nS_lt hb)
      have HG := Lib.hid (gcd_lt_BIG (nS_lt ha) (nS_lt hb))
      clear ha hb
      obtain ⟨g, hg⟩ : ∃ g, Nat.gcd (nS a).natAbs (nS b).natAbs = g := ⟨_, rfl⟩
      rw [hg] at HG ⊢
      have Hg := Lib.hid hg; clear hg
      go_enter Tryz.func71, Tryz.ntmps71
      go_wp2_with (first
        | (go_at_call 53; refine (refValid_any _ _ (by assumption)).mono ?_; rintro e w0 ⟨rfl, rfl⟩)
        | (go_at_call 54; (with_reducible refine (refDigitsN a _ hva).mono ?_); rintro e w1 ⟨v1, rfl, hr1, hf1, hb1⟩)
        | (go_at_call 54; (with_reducible refine (refDigitsN b _ hvb).mono ?_); rintro e w2 ⟨v2, rfl, hr2, hf2, hb2⟩))
      go_loopw [7, 9] (fun kv lv wr => GcdRel g w kv lv wr) (fun _ lv wr => restOf wr lv)
      case atStart =>
        obtain ⟨a2, c2, e2, _⟩ := hr2.open'
        exact ⟨_, _, a2, c2, e2, hr1.below hb2, hr2, hb1.trans (hb2.mono hb1.size), Hg.out, hla, hlb⟩
      case round =>
        obtain ⟨x, y, ad, cp, rfl, hrx, hry, hB, hgg, hlx, hly⟩ := hrel
        have Hgg := Lib.hid hgg; clear hgg
        clear hr1 hr2 hf1 hf2 hb1 hb2
        by_cases hy0 : y = 0
        · subst hy0
          have hl0 : (digs 10 0).length ≤ 0 := by rw [digs_zero]; simp
          have e1 : g = x := by rw [← Hgg.out]; simp
          subst e1
          have HQ := Lib.hid (chkI_yes (n := sgn false g) (by rw [sgn_abs]; exact HG.out))
          go_wp2_with (go_at_call 55; refine (refChecked_any false _ _ _ hrx (by omega)).mono ?_; rw [HQ.out]; rintro e w6 ⟨rfl, hb6⟩)
          go_ret2
          exact ⟨rfl, hB.trans (hb6.mono hB.size)⟩
        · have hl0 : 0 < (digs 10 y).length := List.length_pos_iff.2 (fun e => hy0 ((digs_eq_nil (by decide)).1 e))
          go_wp2_with (go_at_call 92; refine (refDivided2 x y (by omega) _ _ _ hrx hry (by omega) (by omega)).mono ?_; rintro e w3 ⟨v3, a3, c3, rfl, hq3, hr3, hb3⟩)
          go_roundw
          case rel => exact ⟨y, x % y, _, _, rfl, hry.below hb3, hr3, hB.trans (hb3.mono hB.size), by rw [← Hgg.out, Nat.gcd_comm x y, Nat.gcd_rec y x, Nat.gcd_comm], hly, Nat.le_trans (digs_length_mono (by decide) (Nat.le_of_lt (Nat.mod_lt x (by omega)))) hly⟩
          case measure => rw [restOf_eq hr3, restOf_eq hry]; exact Nat.mod_lt x (by omega)
    · rw [iGcd_no (.inr (by simpa using hb))]
      have hva : vld a.data.toList = true := ha
      have hvb : vld b.data.toList = false := by simpa [vS] using hb
      clear ha hb
      go_enter Tryz.func71, Tryz.ntmps71
      go_wp2_with (go_at_call 53; refine (refValid_any _ _ (by assumption)).mono ?_; rintro e w0 ⟨rfl, rfl⟩)
      go_ret2
      exact ⟨rfl, Below.refl _ _⟩
  · rw [iGcd_no (.inl (by simpa using ha))]
    have hva : vld a.data.toList = false := by simpa [vS] using ha
    clear ha
    go_enter Tryz.func71, Tryz.ntmps71
    go_wp2_with (go_at_call 53; refine (refValid_any _ _ (by assumption)).mono ?_; rintro e w0 ⟨rfl, rfl⟩)
    go_ret2
    exact ⟨rfl, Below.refl _ _⟩

/-- What a round of 'FromInt' keeps. -/
def FromRel (n : Nat) (neg : Bool) (w : World) (out mv : Value) (wr : World) : Prop :=
  ∃ (m : Nat) (l : List Nat), mv = .int .i64 (sgn neg m) ∧ OwnL encN 3 wr w.heap.size out l ∧ Below w.heap.size w wr ∧ l ++ digs 10 m = digs 10 n ∧ m ≤ n
theorem fromRel_step {n m : Nat} {l : List Nat} (h : l ++ digs 10 m = digs 10 n) (h0 : m ≠ 0) : (l ++ [m % 10]) ++ digs 10 (m / 10) = digs 10 n := by
  rw [List.append_assoc, ← h, digs_pos (n := m) (by decide) h0]; rfl
theorem fromRel_len {n m : Nat} {l : List Nat} (h : l ++ digs 10 m = digs 10 n) (hn : (digs 10 n).length ≤ 20) : l.length ≤ 20 := by
  have := congrArg List.length h
  rw [List.length_append] at this; omega

set_option maxRecDepth 100000 in
theorem refFromInt_pos (n : Nat) (w : World) (h2 : n ≤ 9223372036854775807) :
    Calls Tryz.prog 20 #[.int .i64 (n : Int)] w fun e w' => e = .returned (.string (ofI n)) ∧ Below w.heap.size w w' := by
  have hln : (digs 10 n).length ≤ 20 := digs_len_of_lt (by omega)
  have hB0 := zero_lt_BIG
  go_enter Tryz.func20, Tryz.ntmps20
  go_wp2
  go_loopw [3, 4] (fun out mv wr => FromRel n false w out mv wr) (fun _ mv _ => (intOf mv).natAbs)
  case atStart => exact ⟨n, [], rfl, OwnL.nil _ _, Below.refl _ _, rfl, Nat.le_refl _⟩
  case round =>
    obtain ⟨m, l, rfl, hown, hB, hl, hmn⟩ := hrel
    have Hl := Lib.hid hl; clear hl
    have hll := fromRel_len Hl.out hln
    have hbs := hB.size
    rw [show sgn false m = (m : Int) from rfl]
    by_cases h0 : m = 0
    · subst h0
      have e1 := Hl.out
      rw [digs_zero, List.append_nil] at e1
      subst e1
      go_wp2_with (go_at_call 52; refine (refText_any false n _ _ hown.rd (by omega)).mono ?_; rintro e w6 ⟨rfl, hb6⟩)
      go_ret
      exact ⟨rfl, hB.trans (hb6.mono hB.size)⟩
    · have c1 : ((m : Int) != 0) = true := by rw [bne_iff_ne]; omega
      go_wp2_with (at_builtin; refine appN rfl _ _ rfl rfl (hown.alloc _) wr.heap.size 1 _ rfl (cell_new1 _ _ _) (m % 10) (int_eq (by omega)) (by omega) (by simp; omega) ?_; intro v' w1 hown1 hB1)
      go_roundw
      case rel => exact ⟨m / 10, _, int_eq (by simp only [sgn]; simp), hown1, (hB.alloc hB.size _).trans hB1, fromRel_step Hl.out h0, by omega⟩
      case measure => simp [intOf]; omega

set_option maxRecDepth 100000 in
theorem refFromInt_neg (n : Nat) (w : World) (h1 : 0 < n) (h2 : n ≤ 9223372036854775808) :
    Calls Tryz.prog 20 #[.int .i64 (-(n : Int))] w fun e w' => e = .returned (.string (ofI (-(n : Int)))) ∧ Below w.heap.size w w' := by
  have hln : (digs 10 n).length ≤ 20 := digs_len_of_lt (by omega)
  go_enter Tryz.func20, Tryz.ntmps20
  go_wp2
  go_loopw [3, 4] (fun out mv wr => FromRel n true w out mv wr) (fun _ mv _ => (intOf mv).natAbs)
  case atStart => exact ⟨n, [], rfl, OwnL.nil _ _, Below.refl _ _, rfl, Nat.le_refl _⟩
  case round =>
    obtain ⟨m, l, rfl, hown, hB, hl, hmn⟩ := hrel
    have Hl := Lib.hid hl; clear hl
    have hll := fromRel_len Hl.out hln
    have hbs := hB.size
    rw [show sgn true m = -(m : Int) from rfl]
    by_cases h0 : m = 0
    · subst h0
      have e1 := Hl.out
      rw [digs_zero, List.append_nil] at e1
      subst e1
      go_wp2_with (go_at_call 52; refine (refText_any true n _ _ hown.rd (by omega)).mono ?_; rintro e w6 ⟨rfl, hb6⟩)
      go_ret
      exact ⟨rfl, hB.trans (hb6.mono hB.size)⟩
    · have c1 : (-(m : Int) != 0) = true := by rw [bne_iff_ne]; omega
      obtain ⟨md, hmd⟩ : ∃ md, m % 10 = md := ⟨_, rfl⟩
      obtain ⟨mq, hmq⟩ : ∃ mq, m / 10 = mq := ⟨_, rfl⟩
      have t1 : (-(m : Int)).tmod 10 = -(md : Int) := by rw [Int.neg_tmod, ← hmd]; congr 1
      have t2 : (-(m : Int)).tdiv 10 = -(mq : Int) := by rw [Int.neg_tdiv, ← hmq]; congr 1
      have hmd9 : md ≤ 9 := by omega
      have hmq9 : mq ≤ m := by omega
      have hmq0 : mq < m := by omega
      have Hmd := Lib.hid hmd
      have Hmq := Lib.hid hmq
      clear hmd hmq
      have hm0 : 0 < m := by omega
      by_cases hz : md = 0
      · subst hz
        go_wp2_with (at_builtin; refine appN rfl _ _ rfl rfl (hown.alloc _) wr.heap.size 1 _ rfl (cell_new1 _ _ _) (m % 10) (int_eq (by rw [Hmd.out]; rfl)) (by omega) (by simp; omega) ?_; intro v' w1 hown1 hB1)
        go_roundw
        case rel => exact ⟨m / 10, _, int_eq (by rw [Hmq.out]; rfl), hown1, (hB.alloc hB.size _).trans hB1, fromRel_step Hl.out h0, by omega⟩
        case measure => simp [intOf]; omega
      · have c2 : -(md : Int) < 0 := by omega
        go_wp2_with (at_builtin; refine appN rfl _ _ rfl rfl (hown.alloc _) wr.heap.size 1 _ rfl (cell_new1 _ _ _) (m % 10) (int_eq (by rw [Hmd.out])) (by omega) (by simp; omega) ?_; intro v' w1 hown1 hB1)
        go_roundw
        case rel => exact ⟨m / 10, _, int_eq (by rw [Hmq.out]; rfl), hown1, (hB.alloc hB.size _).trans hB1, fromRel_step Hl.out h0, by omega⟩
        case measure => simp [intOf]; omega
theorem refFromInt_any (n : Int) (w : World) (h1 : -9223372036854775808 ≤ n) (h2 : n ≤ 9223372036854775807) :
    Calls Tryz.prog 20 #[.int .i64 n] w fun e w' => e = .returned (.string (ofI n)) ∧ Below w.heap.size w w' := by
  by_cases h : n < 0
  · have := refFromInt_neg n.natAbs w (by omega) (by omega)
    rwa [show -(n.natAbs : Int) = n by omega] at this
  · have := refFromInt_pos n.natAbs w (by omega)
    rwa [show (n.natAbs : Int) = n by omega] at this
end Go.Proofs.YtgeoidnleagloaaGreatDoor
