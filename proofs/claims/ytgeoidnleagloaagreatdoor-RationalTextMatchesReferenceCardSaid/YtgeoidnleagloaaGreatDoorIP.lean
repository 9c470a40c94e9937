/- Walks of package integer: Div. -/
import Derived.Test.YtgeoidnleagloaaGreatDoorIO
set_option linter.unusedVariables false
set_option linter.unusedSimpArgs false
namespace Go.Proofs.YtgeoidnleagloaaGreatDoor
open Go.RowKit Yk

theorem chkI_ok {s : Int} (h : s.natAbs < BIG) : chkI s = (ofI s, 0) := by unfold chkI; rw [if_pos h]
theorem div_small {x y : Nat} (hy : 0 < y) (hx : x < BIG) (na nb : Bool) : (sgn na x / sgn nb y).natAbs < BIG := by
  cases na
  · rw [show sgn false x = (x : Int) from rfl, (div_sizes_pos x nb y).1, sgn_abs]
    exact Nat.lt_of_le_of_lt (Nat.div_le_self _ _) hx
  · rw [show sgn true x = -(x : Int) from rfl, (div_sizes_neg hy nb).1, sgn_abs]
    split
    · exact Nat.lt_of_le_of_lt (Nat.div_le_self _ _) hx
    · rename_i h
      have h2 : 2 ≤ y := by
        rcases Nat.lt_or_ge 1 y with h3 | h3
        · exact h3
        · have : y = 1 := by omega
          subst this; rw [Nat.mod_one] at h; exact absurd rfl h
      have h3 : x / y ≤ x / 2 := Nat.div_le_div_left h2 (by decide)
      have h4 : x ≠ 0 := by intro e; subst e; simp at h
      omega
theorem mod_small {x y : Nat} (hy : 0 < y) (hY : y < BIG) (na nb : Bool) : (sgn na x % sgn nb y).natAbs < BIG := by
  have hm := Nat.mod_lt x hy
  cases na
  · rw [show sgn false x = (x : Int) from rfl, (div_sizes_pos x nb y).2, Int.natAbs_natCast]; omega
  · rw [show sgn true x = -(x : Int) from rfl, (div_sizes_neg hy nb).2, Int.natAbs_natCast]
    split <;> omega

theorem digs_len_le_succ (n : Nat) : (digs 10000 n).length ≤ (digs 10000 (n + 1)).length := by
  obtain ⟨k, hk⟩ : ∃ k, (digs 10000 (n + 1)).length = k := ⟨_, rfl⟩
  rw [hk]
  have := (digs_length_le (B := 10000) (by decide) (n + 1) k).1 (by omega)
  exact (digs_length_le (by decide) n k).2 (by omega)
/-- What Div gives. -/
def DivPost (s r : Int) (w : World) (e : Ending) (w' : World) : Prop := e = .returned (.tuple #[.string (ofI s), .string (ofI r), .int .i64 0]) ∧ Below w.heap.size w w'

set_option maxRecDepth 100000 in
set_option maxHeartbeats 2000000 in
theorem div_pos (nb : Bool) (x y : Nat) (hy0 : 0 < y)  (hxB : x < BIG) (hyB : y < BIG) (a b : ByteArray) (w : World) (hg : Glob w)
    (hB : Hid (∀ w, Calls Tryz.prog 79 #[.string a, .string b] w fun e w' => ∃ v1 v2, e = .returned (.tuple #[.agg #[.bool false, v1], .agg #[.bool nb, v2], .bool true]) ∧ Rd encN w' v1 (digs 10000 x) ∧ Rd encN w' v2 (digs 10000 y) ∧ From w.heap.size v1 ∧ From w.heap.size v2 ∧ Below w.heap.size w w')) :
    Calls Tryz.prog 58 #[.string a, .string b] w (DivPost (sgn false x / sgn nb y) (sgn false x % sgn nb y) w) := by
  have hq : chkI (sgn nb (x / y)) = (ofI (sgn false x / sgn nb y), 0) := by
    rw [← chkI_ok (div_small hy0 hxB _ _)]; congr 1; exact (by rw [show sgn false x = (x : Int) from rfl, (div_sizes_pos x nb y).1])
  have hr : chkI (sgn false (x % y)) = (ofI (sgn false x % sgn nb y), 0) := by
    rw [← chkI_ok (mod_small hy0 hyB _ _)]; congr 1; rw [show sgn false x = (x : Int) from rfl, (div_sizes_pos x nb y).2]; rfl
  generalize sgn false x / sgn nb y = sq at *
  generalize sgn false x % sgn nb y = sr at *
  have Hq := Lib.hid hq
  have Hr := Lib.hid hr
  have hla := digs_len_BIG hxB
  have hlb := digs_len_BIG hyB
  have hlq : (digs 10000 (x / y)).length ≤ 51 := digs_len_two (by have := Nat.div_le_self x y; omega)
  have hlr : (digs 10000 (x % y)).length ≤ 50 := digs_len_BIG (by have := Nat.mod_lt x hy0; omega)
  have hn2 : 0 < (digs 10000 y).length := by
    rcases Nat.eq_zero_or_pos (digs 10000 y).length with h | h
    · have := (digs_eq_nil (B := 10000) (by decide)).1 (List.eq_nil_of_length_eq_zero h); omega
    · exact h
  have Hla := Lib.hid hla
  have Hlb := Lib.hid hlb
  have Hlq := Lib.hid hlq
  have Hlr := Lib.hid hlr
  have Hg := Lib.hid hg
  have Hy0 := Lib.hid hy0
  clear hq hr hla hlb hlq hlr hg hxB hyB hy0
  have hmx : Tryz.prog.follows .mixedOrders = true := by kernel_rfl
  obtain ⟨n1, e1⟩ : ∃ n, (digs 10000 x).length = n := ⟨_, rfl⟩
  obtain ⟨n2, e2⟩ : ∃ n, (digs 10000 y).length = n := ⟨_, rfl⟩
  rw [e2] at hn2
  have c1 : ((n2 : Int) == 0) = false := by rw [beq_eq_false_iff_ne]; omega
  have E1 := Lib.hid e1
  have E2 := Lib.hid e2
  clear e1 e2
  go_enter Tryz.func58, Tryz.ntmps58
  go_wp2_with fail
  (with_reducible refine (hB.out _).mono ?_); rintro e w1 ⟨v1, v2, rfl, hr1, hr2, hf1, hf2, hb1⟩
  obtain ⟨a1, k1, rfl, _⟩ := hr1.open'
  obtain ⟨a2, k2, rfl, _⟩ := hr2.open'
  rw [E1.out] at hr1
  rw [E2.out] at hr2
  simp only [E1.out, E2.out]
  have H1 := Lib.hid hr1
  have H2 := Lib.hid hr2
  have HB := Lib.hid hb1
  have hs1 := hb1.size
  clear hr1 hr2 hf1 hf2 hb1
  have hbl : ∀ o1 o2, Below w1.heap.size w1 ((w1.alloc o1).alloc o2) := fun o1 o2 => ((Below.refl _ _).alloc (Nat.le_refl _) _).alloc (by simp) _
  have Hbl := Lib.hid hbl
  clear hbl
  go_wp2_with fail
  have r1 : Blk ((w1.alloc (.cells #[.bool false, .slice a1 n1 k1] 100)).alloc (.cells #[.bool nb, .slice a2 n2 k2] 100)) w1.heap.size #[.bool false, .slice a1 n1 k1] 100 := (Blk.new w1 _ _).alloc _
  have r2 : Blk ((w1.alloc (.cells #[.bool false, .slice a1 n1 k1] 100)).alloc (.cells #[.bool nb, .slice a2 n2 k2] 100)) (w1.heap.size + 1) #[.bool nb, .slice a2 n2 k2] 100 := Blk.newAt _ _ _ (by simp)
  have rb := Hbl.out (.cells #[.bool false, .slice a1 n1 k1] 100) (.cells #[.bool nb, .slice a2 n2 k2] 100)
  generalize ((w1.alloc (.cells #[.bool false, .slice a1 n1 k1] 100)).alloc (.cells #[.bool nb, .slice a2 n2 k2] 100)) = W0 at *
  refine (numOver_any x y Hy0.out _ _ _ (H1.out.below rb) (H2.out.below rb) (by have := Hla.out; omega) (by have := Hlb.out; omega) (from_own (H1.out.below rb))).mono ?_
  rintro e W2 ⟨v3, v4, rfl, hr3, hr4, hf3, hf4, hb2⟩
  have R1 := Lib.hid (r1.below hb2 r1.lt)
  have R2 := Lib.hid (r2.below hb2 r2.lt)
  have s2 := hb2.size
  have s1 := rb.size
  have RB := Lib.hid (rb.trans (hb2.mono s1))
  clear r1 r2 rb hb2 hf3 hf4
  obtain ⟨a4, k4, rfl, _⟩ := hr4.open'
  obtain ⟨n4, e4⟩ : ∃ n, (digs 10000 (x % y)).length = n := ⟨_, rfl⟩
  rw [e4] at hr4
  simp only [e4]
  clear e4
  obtain ⟨a3, k3, rfl, _⟩ := hr3.open'
  have HR3 := Lib.hid hr3
  have HR4 := Lib.hid hr4
  have HGx := Lib.hid ((Hg.out.below HB.out).below RB.out)
  have HBx := Lib.hid (HB.out.trans (RB.out.mono hs1))
  clear hr3 hr4
  obtain ⟨p1, p2, _, _, _⟩ := blk2 R1.out
  obtain ⟨q1, q2, _, _, _⟩ := blk2 R2.out
  go_wp2_with fail
  refine (text_any _ _ _ _ HR3.out HGx.out (by have := Hlq.out; omega)).mono ?_
  rw [Hq.out]
  rintro e W6 ⟨rfl, hb6⟩
  have HR4' := Lib.hid (HR4.out.below hb6)
  have HG6 := Lib.hid (HGx.out.below hb6)
  have HB6 := Lib.hid (HBx.out.trans (hb6.mono HBx.out.size))
  clear hb6
  go_wp2_with fail
  refine (text_any _ _ _ _ HR4'.out HG6.out (by have := Hlr.out; omega)).mono ?_
  rw [Hr.out]
  rintro e W7 ⟨rfl, hb7⟩
  have HB7 := Lib.hid (HB6.out.trans (hb7.mono HB6.out.size))
  clear hb7
  go_wp2
  go_ret3
  exact ⟨rfl, HB7.out⟩

set_option maxRecDepth 100000 in
set_option maxHeartbeats 2000000 in
theorem div_zero (nb : Bool) (x y : Nat) (hy0 : 0 < y) (h0 : x % y = 0) (hxB : x < BIG) (hyB : y < BIG) (a b : ByteArray) (w : World) (hg : Glob w)
    (hB : Hid (∀ w, Calls Tryz.prog 79 #[.string a, .string b] w fun e w' => ∃ v1 v2, e = .returned (.tuple #[.agg #[.bool true, v1], .agg #[.bool nb, v2], .bool true]) ∧ Rd encN w' v1 (digs 10000 x) ∧ Rd encN w' v2 (digs 10000 y) ∧ From w.heap.size v1 ∧ From w.heap.size v2 ∧ Below w.heap.size w w')) :
    Calls Tryz.prog 58 #[.string a, .string b] w (DivPost (sgn true x / sgn nb y) (sgn true x % sgn nb y) w) := by
  have hq : chkI (sgn (!nb) (x / y)) = (ofI (sgn true x / sgn nb y), 0) := by
    rw [← chkI_ok (div_small hy0 hxB _ _)]; congr 1; exact (by rw [show sgn true x = -(x : Int) from rfl, (div_sizes_neg hy0 nb).1, if_pos h0])
  have hr : chkI (sgn false (x % y)) = (ofI (sgn true x % sgn nb y), 0) := by
    rw [← chkI_ok (mod_small hy0 hyB _ _)]; congr 1; rw [show sgn true x = -(x : Int) from rfl, (div_sizes_neg hy0 nb).2, if_pos h0, h0]; rfl
  generalize sgn true x / sgn nb y = sq at *
  generalize sgn true x % sgn nb y = sr at *
  have Hq := Lib.hid hq
  have Hr := Lib.hid hr
  have hla := digs_len_BIG hxB
  have hlb := digs_len_BIG hyB
  have hlq : (digs 10000 (x / y)).length ≤ 51 := digs_len_two (by have := Nat.div_le_self x y; omega)
  have hlr : (digs 10000 (x % y)).length ≤ 50 := digs_len_BIG (by have := Nat.mod_lt x hy0; omega)
  have hn2 : 0 < (digs 10000 y).length := by
    rcases Nat.eq_zero_or_pos (digs 10000 y).length with h | h
    · have := (digs_eq_nil (B := 10000) (by decide)).1 (List.eq_nil_of_length_eq_zero h); omega
    · exact h
  have Hla := Lib.hid hla
  have Hlb := Lib.hid hlb
  have Hlq := Lib.hid hlq
  have Hlr := Lib.hid hlr
  have Hg := Lib.hid hg
  have Hy0 := Lib.hid hy0
  have H0 := Lib.hid h0
  clear h0
  clear hq hr hla hlb hlq hlr hg hxB hyB hy0
  have hmx : Tryz.prog.follows .mixedOrders = true := by kernel_rfl
  obtain ⟨n1, e1⟩ : ∃ n, (digs 10000 x).length = n := ⟨_, rfl⟩
  obtain ⟨n2, e2⟩ : ∃ n, (digs 10000 y).length = n := ⟨_, rfl⟩
  rw [e2] at hn2
  have c1 : ((n2 : Int) == 0) = false := by rw [beq_eq_false_iff_ne]; omega
  have E1 := Lib.hid e1
  have E2 := Lib.hid e2
  clear e1 e2
  go_enter Tryz.func58, Tryz.ntmps58
  go_wp2_with fail
  (with_reducible refine (hB.out _).mono ?_); rintro e w1 ⟨v1, v2, rfl, hr1, hr2, hf1, hf2, hb1⟩
  obtain ⟨a1, k1, rfl, _⟩ := hr1.open'
  obtain ⟨a2, k2, rfl, _⟩ := hr2.open'
  rw [E1.out] at hr1
  rw [E2.out] at hr2
  simp only [E1.out, E2.out]
  have H1 := Lib.hid hr1
  have H2 := Lib.hid hr2
  have HB := Lib.hid hb1
  have hs1 := hb1.size
  clear hr1 hr2 hf1 hf2 hb1
  have hbl : ∀ o1 o2, Below w1.heap.size w1 ((w1.alloc o1).alloc o2) := fun o1 o2 => ((Below.refl _ _).alloc (Nat.le_refl _) _).alloc (by simp) _
  have Hbl := Lib.hid hbl
  clear hbl
  go_wp2_with fail
  have r1 : Blk ((w1.alloc (.cells #[.bool true, .slice a1 n1 k1] 100)).alloc (.cells #[.bool nb, .slice a2 n2 k2] 100)) w1.heap.size #[.bool true, .slice a1 n1 k1] 100 := (Blk.new w1 _ _).alloc _
  have r2 : Blk ((w1.alloc (.cells #[.bool true, .slice a1 n1 k1] 100)).alloc (.cells #[.bool nb, .slice a2 n2 k2] 100)) (w1.heap.size + 1) #[.bool nb, .slice a2 n2 k2] 100 := Blk.newAt _ _ _ (by simp)
  have rb := Hbl.out (.cells #[.bool true, .slice a1 n1 k1] 100) (.cells #[.bool nb, .slice a2 n2 k2] 100)
  generalize ((w1.alloc (.cells #[.bool true, .slice a1 n1 k1] 100)).alloc (.cells #[.bool nb, .slice a2 n2 k2] 100)) = W0 at *
  refine (numOver_any x y Hy0.out _ _ _ (H1.out.below rb) (H2.out.below rb) (by have := Hla.out; omega) (by have := Hlb.out; omega) (from_own (H1.out.below rb))).mono ?_
  rintro e W2 ⟨v3, v4, rfl, hr3, hr4, hf3, hf4, hb2⟩
  have R1 := Lib.hid (r1.below hb2 r1.lt)
  have R2 := Lib.hid (r2.below hb2 r2.lt)
  have s2 := hb2.size
  have s1 := rb.size
  have RB := Lib.hid (rb.trans (hb2.mono s1))
  clear r1 r2 rb hb2 hf3 hf4
  obtain ⟨a4, k4, rfl, _⟩ := hr4.open'
  obtain ⟨n4, e4⟩ : ∃ n, (digs 10000 (x % y)).length = n := ⟨_, rfl⟩
  rw [e4] at hr4
  simp only [e4]
  obtain rfl : n4 = 0 := by rw [← e4, H0.out, digs_zero]; rfl
  clear e4
  obtain ⟨a3, k3, rfl, _⟩ := hr3.open'
  have HR3 := Lib.hid hr3
  have HR4 := Lib.hid hr4
  have HGx := Lib.hid ((Hg.out.below HB.out).below RB.out)
  have HBx := Lib.hid (HB.out.trans (RB.out.mono hs1))
  clear hr3 hr4
  obtain ⟨p1, p2, _, _, _⟩ := blk2 R1.out
  obtain ⟨q1, q2, _, _, _⟩ := blk2 R2.out
  go_wp2_with fail
  refine (text_any _ _ _ _ HR3.out HGx.out (by have := Hlq.out; omega)).mono ?_
  rw [Hq.out]
  rintro e W6 ⟨rfl, hb6⟩
  have HR4' := Lib.hid (HR4.out.below hb6)
  have HG6 := Lib.hid (HGx.out.below hb6)
  have HB6 := Lib.hid (HBx.out.trans (hb6.mono HBx.out.size))
  clear hb6
  go_wp2_with fail
  refine (text_any _ _ _ _ HR4'.out HG6.out (by have := Hlr.out; omega)).mono ?_
  rw [Hr.out]
  rintro e W7 ⟨rfl, hb7⟩
  have HB7 := Lib.hid (HB6.out.trans (hb7.mono HB6.out.size))
  clear hb7
  go_wp2
  go_ret3
  exact ⟨rfl, HB7.out⟩

set_option maxRecDepth 100000 in
set_option maxHeartbeats 2000000 in
theorem div_rest (nb : Bool) (x y : Nat) (hy0 : 0 < y) (h0 : x % y ≠ 0) (hxB : x < BIG) (hyB : y < BIG) (a b : ByteArray) (w : World) (hg : Glob w)
    (hB : Hid (∀ w, Calls Tryz.prog 79 #[.string a, .string b] w fun e w' => ∃ v1 v2, e = .returned (.tuple #[.agg #[.bool true, v1], .agg #[.bool nb, v2], .bool true]) ∧ Rd encN w' v1 (digs 10000 x) ∧ Rd encN w' v2 (digs 10000 y) ∧ From w.heap.size v1 ∧ From w.heap.size v2 ∧ Below w.heap.size w w')) :
    Calls Tryz.prog 58 #[.string a, .string b] w (DivPost (sgn true x / sgn nb y) (sgn true x % sgn nb y) w) := by
  have hq : chkI (sgn (!nb) (x / y + 1)) = (ofI (sgn true x / sgn nb y), 0) := by
    rw [← chkI_ok (div_small hy0 hxB _ _)]; congr 1; exact (by rw [show sgn true x = -(x : Int) from rfl, (div_sizes_neg hy0 nb).1, if_neg h0])
  have hr : chkI (sgn false (y - x % y)) = (ofI (sgn true x % sgn nb y), 0) := by
    rw [← chkI_ok (mod_small hy0 hyB _ _)]; congr 1; rw [show sgn true x = -(x : Int) from rfl, (div_sizes_neg hy0 nb).2, if_neg h0]; rfl
  generalize sgn true x / sgn nb y = sq at *
  generalize sgn true x % sgn nb y = sr at *
  have Hq := Lib.hid hq
  have Hr := Lib.hid hr
  have hla := digs_len_BIG hxB
  have hlb := digs_len_BIG hyB
  have hlq : (digs 10000 (x / y + 1)).length ≤ 51 := digs_len_two (by have := Nat.div_le_self x y; omega)
  have hlr2 : (digs 10000 (x % y)).length ≤ 50 := digs_len_BIG (by have := Nat.mod_lt x hy0; omega)
  have Hlr2 := Lib.hid hlr2
  clear hlr2
  have hlr : (digs 10000 (y - x % y)).length ≤ 50 := digs_len_BIG (by have := Nat.mod_lt x hy0; omega)
  have hn2 : 0 < (digs 10000 y).length := by
    rcases Nat.eq_zero_or_pos (digs 10000 y).length with h | h
    · have := (digs_eq_nil (B := 10000) (by decide)).1 (List.eq_nil_of_length_eq_zero h); omega
    · exact h
  have Hla := Lib.hid hla
  have Hlb := Lib.hid hlb
  have Hlq := Lib.hid hlq
  have Hlr := Lib.hid hlr
  have Hg := Lib.hid hg
  have Hy0 := Lib.hid hy0
  have H0 := Lib.hid h0
  clear h0
  clear hq hr hla hlb hlq hlr hg hxB hyB hy0
  have hmx : Tryz.prog.follows .mixedOrders = true := by kernel_rfl
  obtain ⟨n1, e1⟩ : ∃ n, (digs 10000 x).length = n := ⟨_, rfl⟩
  obtain ⟨n2, e2⟩ : ∃ n, (digs 10000 y).length = n := ⟨_, rfl⟩
  rw [e2] at hn2
  have c1 : ((n2 : Int) == 0) = false := by rw [beq_eq_false_iff_ne]; omega
  have E1 := Lib.hid e1
  have E2 := Lib.hid e2
  clear e1 e2
  go_enter Tryz.func58, Tryz.ntmps58
  go_wp2_with fail
  (with_reducible refine (hB.out _).mono ?_); rintro e w1 ⟨v1, v2, rfl, hr1, hr2, hf1, hf2, hb1⟩
  obtain ⟨a1, k1, rfl, _⟩ := hr1.open'
  obtain ⟨a2, k2, rfl, _⟩ := hr2.open'
  rw [E1.out] at hr1
  rw [E2.out] at hr2
  simp only [E1.out, E2.out]
  have H1 := Lib.hid hr1
  have H2 := Lib.hid hr2
  have HB := Lib.hid hb1
  have hs1 := hb1.size
  clear hr1 hr2 hf1 hf2 hb1
  have hbl : ∀ o1 o2, Below w1.heap.size w1 ((w1.alloc o1).alloc o2) := fun o1 o2 => ((Below.refl _ _).alloc (Nat.le_refl _) _).alloc (by simp) _
  have Hbl := Lib.hid hbl
  clear hbl
  go_wp2_with fail
  have r1 : Blk ((w1.alloc (.cells #[.bool true, .slice a1 n1 k1] 100)).alloc (.cells #[.bool nb, .slice a2 n2 k2] 100)) w1.heap.size #[.bool true, .slice a1 n1 k1] 100 := (Blk.new w1 _ _).alloc _
  have r2 : Blk ((w1.alloc (.cells #[.bool true, .slice a1 n1 k1] 100)).alloc (.cells #[.bool nb, .slice a2 n2 k2] 100)) (w1.heap.size + 1) #[.bool nb, .slice a2 n2 k2] 100 := Blk.newAt _ _ _ (by simp)
  have rb := Hbl.out (.cells #[.bool true, .slice a1 n1 k1] 100) (.cells #[.bool nb, .slice a2 n2 k2] 100)
  generalize ((w1.alloc (.cells #[.bool true, .slice a1 n1 k1] 100)).alloc (.cells #[.bool nb, .slice a2 n2 k2] 100)) = W0 at *
  refine (numOver_any x y Hy0.out _ _ _ (H1.out.below rb) (H2.out.below rb) (by have := Hla.out; omega) (by have := Hlb.out; omega) (from_own (H1.out.below rb))).mono ?_
  rintro e W2 ⟨v3, v4, rfl, hr3, hr4, hf3, hf4, hb2⟩
  have R1 := Lib.hid (r1.below hb2 r1.lt)
  have R2 := Lib.hid (r2.below hb2 r2.lt)
  have s2 := hb2.size
  have s1 := rb.size
  have RB := Lib.hid (rb.trans (hb2.mono s1))
  clear r1 r2 rb hb2 hf3 hf4
  obtain ⟨a4, k4, rfl, _⟩ := hr4.open'
  obtain ⟨n4, e4⟩ : ∃ n, (digs 10000 (x % y)).length = n := ⟨_, rfl⟩
  rw [e4] at hr4
  simp only [e4]
  have c4 : (0 : Int) < (n4 : Int) := by
    rcases Nat.eq_zero_or_pos n4 with h | h
    · rw [h] at e4
      have := (digs_eq_nil (B := 10000) (by decide)).1 (List.eq_nil_of_length_eq_zero e4)
      exact absurd this H0.out
    · omega
  have E4 := Lib.hid e4
  clear e4
  obtain ⟨a3, k3, rfl, _⟩ := hr3.open'
  have HR3' := Lib.hid hr3
  have HR4' := Lib.hid hr4
  have HGx' := Lib.hid ((Hg.out.below HB.out).below RB.out)
  have HBx' := Lib.hid (HB.out.trans (RB.out.mono hs1))
  clear hr3 hr4
  obtain ⟨p1, p2, _, _, _⟩ := blk2 R1.out
  obtain ⟨q1, q2, _, _, _⟩ := blk2 R2.out
  go_wp2
  go_region_held3 (fun w' => (w'.cell? ⟨w1.heap.size, 0, none⟩ = some (.bool true)) ∧ (w'.cell? ⟨w1.heap.size + 1, 0, none⟩ = some (.bool nb) ∧ w'.cell? ⟨w1.heap.size + 1, 1, none⟩ = some (.slice a2 n2 k2))) (go_keep)
    ((first
      | (go_at_call 87; refine (one_any _).mono ?_
         rintro e W3 ⟨v5, rfl, hr5, hf5, hb5⟩
         have S1 := Lib.hid (Blk.below (w := W2.drew) R1.out hb5 R1.out.lt)
         have S2 := Lib.hid (Blk.below (w := W2.drew) R2.out hb5 R2.out.lt)
         obtain ⟨u1, u2, _, _, _⟩ := blk2 S1.out
         obtain ⟨z1, z2, _, _, _⟩ := blk2 S2.out
         have HR5 := Lib.hid hr5
         have HB5 := Lib.hid hb5
         clear hr5 hf5 hb5)
      | (go_at_call 86; refine (numPlus_any (x / y) 1 _ _ _ (HR3'.out.below ((Below.refl _ W2).drew.trans HB5.out)) HR5.out (by have := Hlq.out; have := digs_len_le_succ (x / y); omega) (by rw [digs_digit (B := 10000) (d := 1) (by decide) (by decide) (by decide)]; decide)).mono ?_
         rintro e W4 ⟨v6, rfl, hr6, hf6, hb6⟩
         have T1 := Lib.hid (Blk.below S1.out hb6 S1.out.lt)
         have T2 := Lib.hid (Blk.below S2.out hb6 S2.out.lt)
         obtain ⟨u1, u2, _, _, _⟩ := blk2 T1.out
         obtain ⟨z1, z2, _, _, _⟩ := blk2 T2.out
         obtain ⟨a6, k6, rfl, _⟩ := hr6.open'
         have HR6 := Lib.hid hr6
         have HB6 := Lib.hid (HB5.out.trans (hb6.mono HB5.out.size))
         clear hr6 hf6 hb6)
      | (go_at_call 88; refine (numMinus_any y (x % y) (Nat.le_of_lt (Nat.mod_lt x Hy0.out)) _ _ _ (H2.out.below ((RB.out.drew).trans (HB6.out.mono RB.out.size))) (HR4'.out.below ((Below.refl _ W2).drew.trans HB6.out)) (by have := Hlb.out; omega) (by have := Hlr2.out; omega)).mono ?_
         rintro e W5 ⟨v7, rfl, hr7, hf7, hb7⟩
         have U1 := Lib.hid (Blk.below T1.out hb7 T1.out.lt)
         have U2 := Lib.hid (Blk.below T2.out hb7 T2.out.lt)
         obtain ⟨u1, u2, _, _, _⟩ := blk2 U1.out
         obtain ⟨z1, z2, _, _, _⟩ := blk2 U2.out
         obtain ⟨a7, k7, rfl, _⟩ := hr7.open'
         have HR7 := Lib.hid hr7
         have HR6' := Lib.hid (HR6.out.below hb7)
         have HB7 := Lib.hid (HB6.out.trans (hb7.mono HB6.out.size))
         clear hr7 hf7 hb7)))
  go_wp2_with fail
  have HR3 := HR6'
  have HR4 := HR7
  have HGx := Lib.hid ((HGx'.out.below (Below.refl _ W2).drew).below HB7.out)
  have HBx := Lib.hid (HBx'.out.drew.trans (HB7.out.mono HBx'.out.size))
  refine (text_any _ _ _ _ HR3.out HGx.out (by have := Hlq.out; omega)).mono ?_
  rw [Hq.out]
  rintro e W6 ⟨rfl, hb6⟩
  have HR4' := Lib.hid (HR4.out.below hb6)
  have HG6 := Lib.hid (HGx.out.below hb6)
  have HB6 := Lib.hid (HBx.out.trans (hb6.mono HBx.out.size))
  clear hb6
  go_wp2_with fail
  refine (text_any _ _ _ _ HR4'.out HG6.out (by have := Hlr.out; omega)).mono ?_
  rw [Hr.out]
  rintro e W7 ⟨rfl, hb7⟩
  have HB7 := Lib.hid (HB6.out.trans (hb7.mono HB6.out.size))
  clear hb7
  go_wp2
  go_ret3
  exact ⟨rfl, HB7.out⟩


end Go.Proofs.YtgeoidnleagloaaGreatDoor
