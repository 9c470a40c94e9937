/- Walks of the reference's fractions: the grid, Down and Up. -/
import Derived.Test.YtgeoidnleagloaaGreatDoorSB
import Derived.Test.YtgeoidnleagloaaGreatDoorQG
set_option linter.unusedVariables false
set_option linter.unusedSimpArgs false
namespace Go.Proofs.YtgeoidnleagloaaGreatDoor
open Go.RowKit Yk

/-- What a round of 'power' keeps. -/
def PowR (n : Nat) (vs vi : Value) : Prop := ∃ (k : Nat) (t : ByteArray), k ≤ n ∧ vi = .int .i64 (k : Int) ∧ vs = .string t ∧ t.data.toList = 49 :: List.replicate k 48
set_option maxRecDepth 100000 in
theorem power_any (n : Nat) (hn : n ≤ 1000) (w : World) : Calls Tryz.prog 97 #[.int .i64 (n : Int)] w fun e w' => e = .returned (.string (tenT n)) ∧ w = w' := by
  go_enter Tryz.func97, Tryz.ntmps97
  go_wp2
  go_loop [3, 4] (fun vs vi => PowR n vs vi) (fun _ vi => n - (intOf vi).toNat)
  case atStart => exact ⟨0, _, Nat.zero_le _, rfl, rfl, rfl⟩
  case round =>
    obtain ⟨k, t, hk, rfl, rfl, ht⟩ := hrel
    have hts : t.size < 2000 := by rw [← ba_len, ht]; simp; omega
    have Ht := Lib.hid ht
    clear ht
    by_cases hlt : k < n
    · go_wp2
      go_round
      case rel => exact ⟨k + 1, _, by omega, by go_num, rfl, by simp [Ht.out, List.replicate_succ']⟩
      case measure => simp [intOf]; omega
    · obtain rfl : k = n := by omega
      go_wp2
      go_ret
      exact ⟨ret_str (ba_ext (by rw [Ht.out]; rfl)), rfl⟩
set_option maxRecDepth 100000 in
set_option maxHeartbeats 1000000 in
theorem grid_inv (a1 a2 : ByteArray) (p : Int) (hv : rV (a1, a2) = false) (w : World) (ha : Sz (a1, a2)) :
    Calls Tryz.prog 70 #[.agg #[.string a1, .string a2], .int .i64 p] w fun e w' => e = .returned (.tuple #[.string ⟨#[]⟩, .string ⟨#[]⟩, .string ⟨#[]⟩, .bool false]) ∧ Below w.heap.size w w' := by
  have VA := Lib.hid (fun w => ref4Valid_is hv w ha)
  clear hv ha
  have q0 : Blk (w.alloc (.cells #[.string a1, .string a2] 23)) (w.heap.size) #[.string a1, .string a2] 23 := Blk.new w _ _
  have qL : Below w.heap.size w (w.alloc (.cells #[.string a1, .string a2] 23)) := (Below.refl _ w).alloc (Nat.le_refl _) _
  have A0 := Lib.hid q0
  have L0 := Lib.hid qL
  clear qL q0
  go_enter Tryz.func70, Tryz.ntmps70
  go_wp2_with fail
  try simp only [Nat.add_assoc, Nat.reduceAdd]
  generalize (w.alloc (.cells #[.string a1, .string a2] 23)) = w0 at *
  obtain ⟨a00, a01, a0f, a0g, a0l⟩ := blk2 A0.out
  refine (VA.out _).mono ?_
  rintro e w1 ⟨rfl, hb1⟩
  have A1 := Lib.hid (Blk.below A0.out hb1 A0.out.lt)
  have L1 := Lib.hid (L0.out.trans (hb1.mono L0.out.size))
  clear hb1
  obtain ⟨a10, a11, a1f, a1g, a1l⟩ := blk2 A1.out
  go_wp2
  refine bodyPost_ret (v := .tuple #[.string ⟨#[]⟩, .string ⟨#[]⟩, .string ⟨#[]⟩, .bool false]) (by simp [results, Tryz.results70, go_sem]) rfl ⟨rfl, L1.out⟩
set_option maxRecDepth 100000 in
set_option maxHeartbeats 1000000 in
theorem grid_neg (a1 a2 : ByteArray) (p : Int) (hv : rV (a1, a2) = true) (hp : p < 0) (w : World) (ha : Sz (a1, a2)) :
    Calls Tryz.prog 70 #[.agg #[.string a1, .string a2], .int .i64 p] w fun e w' => e = .returned (.tuple #[.string ⟨#[]⟩, .string ⟨#[]⟩, .string ⟨#[]⟩, .bool false]) ∧ Below w.heap.size w w' := by
  have VA := Lib.hid (fun w => ref4Valid_is hv w ha)
  have t1 : decide (p < 0) = true := by simpa using hp
  clear hv ha
  have q0 : Blk (w.alloc (.cells #[.string a1, .string a2] 23)) (w.heap.size) #[.string a1, .string a2] 23 := Blk.new w _ _
  have qL : Below w.heap.size w (w.alloc (.cells #[.string a1, .string a2] 23)) := (Below.refl _ w).alloc (Nat.le_refl _) _
  have A0 := Lib.hid q0
  have L0 := Lib.hid qL
  clear qL q0
  go_enter Tryz.func70, Tryz.ntmps70
  go_wp2_with fail
  try simp only [Nat.add_assoc, Nat.reduceAdd]
  generalize (w.alloc (.cells #[.string a1, .string a2] 23)) = w0 at *
  obtain ⟨a00, a01, a0f, a0g, a0l⟩ := blk2 A0.out
  refine (VA.out _).mono ?_
  rintro e w1 ⟨rfl, hb1⟩
  have A1 := Lib.hid (Blk.below A0.out hb1 A0.out.lt)
  have L1 := Lib.hid (L0.out.trans (hb1.mono L0.out.size))
  clear hb1
  obtain ⟨a10, a11, a1f, a1g, a1l⟩ := blk2 A1.out
  go_wp2
  refine bodyPost_ret (v := .tuple #[.string ⟨#[]⟩, .string ⟨#[]⟩, .string ⟨#[]⟩, .bool false]) (by simp [results, Tryz.results70, go_sem]) rfl ⟨rfl, L1.out⟩
set_option maxRecDepth 100000 in
set_option maxHeartbeats 1000000 in
theorem grid_big (a1 a2 : ByteArray) (p : Int) (hv : rV (a1, a2) = true) (hp0 : 0 ≤ p) (hp : 30 < p) (w : World) (ha : Sz (a1, a2)) :
    Calls Tryz.prog 70 #[.agg #[.string a1, .string a2], .int .i64 p] w fun e w' => e = .returned (.tuple #[.string ⟨#[]⟩, .string ⟨#[]⟩, .string ⟨#[]⟩, .bool false]) ∧ Below w.heap.size w w' := by
  have VA := Lib.hid (fun w => ref4Valid_is hv w ha)
  have t1 : decide (p < 0) = false := by simp; omega
  have t2 : decide (30 < p) = true := by simpa using hp
  clear hv ha
  have q0 : Blk (w.alloc (.cells #[.string a1, .string a2] 23)) (w.heap.size) #[.string a1, .string a2] 23 := Blk.new w _ _
  have qL : Below w.heap.size w (w.alloc (.cells #[.string a1, .string a2] 23)) := (Below.refl _ w).alloc (Nat.le_refl _) _
  have A0 := Lib.hid q0
  have L0 := Lib.hid qL
  clear qL q0
  go_enter Tryz.func70, Tryz.ntmps70
  go_wp2_with fail
  try simp only [Nat.add_assoc, Nat.reduceAdd]
  generalize (w.alloc (.cells #[.string a1, .string a2] 23)) = w0 at *
  obtain ⟨a00, a01, a0f, a0g, a0l⟩ := blk2 A0.out
  refine (VA.out _).mono ?_
  rintro e w1 ⟨rfl, hb1⟩
  have A1 := Lib.hid (Blk.below A0.out hb1 A0.out.lt)
  have L1 := Lib.hid (L0.out.trans (hb1.mono L0.out.size))
  clear hb1
  obtain ⟨a10, a11, a1f, a1g, a1l⟩ := blk2 A1.out
  go_wp2
  refine bodyPost_ret (v := .tuple #[.string ⟨#[]⟩, .string ⟨#[]⟩, .string ⟨#[]⟩, .bool false]) (by simp [results, Tryz.results70, go_sem]) rfl ⟨rfl, L1.out⟩
set_option maxRecDepth 100000 in
set_option maxHeartbeats 1000000 in
theorem grid_no (a1 a2 : ByteArray) (p : Int) (hv : rV (a1, a2) = true) (hp0 : 0 ≤ p) (hp : p ≤ 30) (hs : small (nS a1 * ten p.toNat) = false) (w : World) (ha : Sz (a1, a2)) :
    Calls Tryz.prog 70 #[.agg #[.string a1, .string a2], .int .i64 p] w fun e w' => e = .returned (.tuple #[.string ⟨#[]⟩, .string ⟨#[]⟩, .string ⟨#[]⟩, .bool false]) ∧ Below w.heap.size w w' := by
  have VA := Lib.hid (fun w => ref4Valid_is hv w ha)
  obtain ⟨k, hk⟩ : ∃ k : Nat, p.toNat = k := ⟨_, rfl⟩
  have hk30 : k ≤ 30 := by omega
  have hkp : p = (k : Int) := by omega
  rw [hk] at hs
  subst hkp
  have t1 : decide ((k : Int) < 0) = false := by simp <;> omega
  have t2 : decide ((30 : Int) < (k : Int)) = false := by simp; omega
  obtain ⟨p1, p2, p3, _⟩ := rV_parts hv
  simp only at p1 p2 p3
  have PW := Lib.hid (power_any k (by omega))
  have vt : vS (tenT k) = true := vS_tenT (by omega)
  have M := Lib.hid (fun w => refMul_any a1 (tenT k) w ha.1 (size_vS vt))
  rw [mul_comm_no p1 vt (by rw [nS_tenT]; exact hs)] at M
  generalize tenT k = t at *
  clear hv ha hs hk p1 p2 p3 vt
  have q0 : Blk (w.alloc (.cells #[.string a1, .string a2] 23)) (w.heap.size) #[.string a1, .string a2] 23 := Blk.new w _ _
  have qL : Below w.heap.size w (w.alloc (.cells #[.string a1, .string a2] 23)) := (Below.refl _ w).alloc (Nat.le_refl _) _
  have A0 := Lib.hid q0
  have L0 := Lib.hid qL
  clear qL q0
  go_enter Tryz.func70, Tryz.ntmps70
  go_wp2_with fail
  try simp only [Nat.add_assoc, Nat.reduceAdd]
  generalize (w.alloc (.cells #[.string a1, .string a2] 23)) = w0 at *
  obtain ⟨a00, a01, a0f, a0g, a0l⟩ := blk2 A0.out
  refine (VA.out _).mono ?_
  rintro e w1 ⟨rfl, hb1⟩
  have A1 := Lib.hid (Blk.below A0.out hb1 A0.out.lt)
  have L1 := Lib.hid (L0.out.trans (hb1.mono L0.out.size))
  clear hb1
  obtain ⟨a10, a11, a1f, a1g, a1l⟩ := blk2 A1.out
  go_wp2_with fail
  refine (PW.out _).mono ?_
  rintro e wx ⟨rfl, rfl⟩
  go_wp2_with fail
  refine (M.out _).mono ?_
  rintro e w2 ⟨rfl, hb2⟩
  have A2 := Lib.hid (Blk.below A1.out hb2 A1.out.lt)
  have L2 := Lib.hid (L1.out.trans (hb2.mono L1.out.size))
  clear hb2
  obtain ⟨a20, a21, a2f, a2g, a2l⟩ := blk2 A2.out
  go_wp2
  refine bodyPost_ret (v := .tuple #[.string ⟨#[]⟩, .string ⟨#[]⟩, .string ⟨#[]⟩, .bool false]) (by simp [results, Tryz.results70, go_sem]) rfl ⟨rfl, L2.out⟩
set_option maxRecDepth 100000 in
set_option maxHeartbeats 1000000 in
theorem grid_yes (a1 a2 : ByteArray) (p : Int) (hv : rV (a1, a2) = true) (hp0 : 0 ≤ p) (hp : p ≤ 30) (hs : small (nS a1 * ten p.toNat) = true) (w : World) (ha : Sz (a1, a2)) :
    Calls Tryz.prog 70 #[.agg #[.string a1, .string a2], .int .i64 p] w fun e w' => e = .returned (.tuple #[.string (ofI (nS a1 * ten p.toNat / nS a2)), .string (ofI (nS a1 * ten p.toNat % nS a2)), .string (ofI (ten p.toNat)), .bool true]) ∧ Below w.heap.size w w' := by
  have VA := Lib.hid (fun w => ref4Valid_is hv w ha)
  obtain ⟨k, hk⟩ : ∃ k : Nat, p.toNat = k := ⟨_, rfl⟩
  have hk30 : k ≤ 30 := by omega
  have hkp : p = (k : Int) := by omega
  rw [hk] at hs ⊢
  subst hkp
  have t1 : decide ((k : Int) < 0) = false := by simp <;> omega
  have t2 : decide ((30 : Int) < (k : Int)) = false := by simp; omega
  obtain ⟨p1, p2, p3, _⟩ := rV_parts hv
  simp only at p1 p2 p3
  have PW := Lib.hid (power_any k (by omega))
  have vt : vS (tenT k) = true := vS_tenT (by omega)
  have M := Lib.hid (fun w => refMul_any a1 (tenT k) w ha.1 (size_vS vt))
  have hm : small (nS a1 * nS (tenT k)) = true := by rw [nS_tenT]; exact hs
  rw [iMul_val p1 vt hm, nS_tenT] at M
  have vm : vS (ofI (nS a1 * ten k)) = true := vS_small hs
  have D := Lib.hid (fun w => refDiv_any (ofI (nS a1 * ten k)) a2 w (size_vS vm) ha.2)
  rw [iDiv_yes vm p2 (by omega), nS_ofI] at D
  rw [ofI_ten (show k < 200 by omega)]
  generalize tenT k = t at *
  generalize ofI (nS a1 * ten k / nS a2) = tq at *
  generalize ofI (nS a1 * ten k % nS a2) = tr at *
  generalize ofI (nS a1 * ten k) = tm at *
  clear hv ha hs hk p1 p2 p3 vt vm hm
  have q0 : Blk (w.alloc (.cells #[.string a1, .string a2] 23)) (w.heap.size) #[.string a1, .string a2] 23 := Blk.new w _ _
  have qL : Below w.heap.size w (w.alloc (.cells #[.string a1, .string a2] 23)) := (Below.refl _ w).alloc (Nat.le_refl _) _
  have A0 := Lib.hid q0
  have L0 := Lib.hid qL
  clear qL q0
  go_enter Tryz.func70, Tryz.ntmps70
  go_wp2_with fail
  try simp only [Nat.add_assoc, Nat.reduceAdd]
  generalize (w.alloc (.cells #[.string a1, .string a2] 23)) = w0 at *
  obtain ⟨a00, a01, a0f, a0g, a0l⟩ := blk2 A0.out
  refine (VA.out _).mono ?_
  rintro e w1 ⟨rfl, hb1⟩
  have A1 := Lib.hid (Blk.below A0.out hb1 A0.out.lt)
  have L1 := Lib.hid (L0.out.trans (hb1.mono L0.out.size))
  clear hb1
  obtain ⟨a10, a11, a1f, a1g, a1l⟩ := blk2 A1.out
  go_wp2_with fail
  refine (PW.out _).mono ?_
  rintro e wx ⟨rfl, rfl⟩
  go_wp2_with fail
  refine (M.out _).mono ?_
  rintro e w2 ⟨rfl, hb2⟩
  have A2 := Lib.hid (Blk.below A1.out hb2 A1.out.lt)
  have L2 := Lib.hid (L1.out.trans (hb2.mono L1.out.size))
  clear hb2
  obtain ⟨a20, a21, a2f, a2g, a2l⟩ := blk2 A2.out
  go_wp2_with fail
  refine (D.out _).mono ?_
  rintro e w3 ⟨rfl, hb3⟩
  have A3 := Lib.hid (Blk.below A2.out hb3 A2.out.lt)
  have L3 := Lib.hid (L2.out.trans (hb3.mono L2.out.size))
  clear hb3
  obtain ⟨a30, a31, a3f, a3g, a3l⟩ := blk2 A3.out
  go_wp2
  refine bodyPost_ret (v := .tuple #[.string tq, .string tr, .string t, .bool true]) (by simp [results, Tryz.results70, go_sem]) rfl ⟨rfl, L3.out⟩
theorem grid_bad (a1 a2 : ByteArray) (p : Int) (h : (rV (a1, a2) && decide (0 ≤ p ∧ p ≤ 30) && small (nS a1 * ten p.toNat)) = false) (w : World) (ha : Sz (a1, a2)) :
    Calls Tryz.prog 70 #[.agg #[.string a1, .string a2], .int .i64 p] w fun e w' => e = .returned (.tuple #[.string ⟨#[]⟩, .string ⟨#[]⟩, .string ⟨#[]⟩, .bool false]) ∧ Below w.heap.size w w' := by
  cases hv : rV (a1, a2) with
  | false => exact grid_inv a1 a2 p hv w ha
  | true =>
    by_cases h1 : p < 0
    · exact grid_neg a1 a2 p hv h1 w ha
    · by_cases h2 : 30 < p
      · exact grid_big a1 a2 p hv (by omega) h2 w ha
      · rw [hv, show decide (0 ≤ p ∧ p ≤ 30) = true by simp; omega] at h
        exact grid_no a1 a2 p hv (by omega) (by omega) (by simpa using h) w ha
theorem grid_ok (a1 a2 : ByteArray) (p : Int) (h : (rV (a1, a2) && decide (0 ≤ p ∧ p ≤ 30) && small (nS a1 * ten p.toNat)) = true) (w : World) (ha : Sz (a1, a2)) :
    Calls Tryz.prog 70 #[.agg #[.string a1, .string a2], .int .i64 p] w fun e w' => e = .returned (.tuple #[.string (ofI (nS a1 * ten p.toNat / nS a2)), .string (ofI (nS a1 * ten p.toNat % nS a2)), .string (ofI (ten p.toNat)), .bool true]) ∧ Below w.heap.size w w' := by
  simp only [Bool.and_eq_true, decide_eq_true_eq] at h
  exact grid_yes a1 a2 p h.1.1 h.1.2.1 h.1.2.2 h.2 w ha
theorem grid_vS {a1 a2 : ByteArray} {p : Int} (h : (rV (a1, a2) && decide (0 ≤ p ∧ p ≤ 30) && small (nS a1 * ten p.toNat)) = true) : vS (ofI (nS a1 * ten p.toNat / nS a2)) = true ∧ vS (ofI (nS a1 * ten p.toNat % nS a2)) = true ∧ vS (ofI (ten p.toNat)) = true := by
  simp only [Bool.and_eq_true, decide_eq_true_eq] at h
  obtain ⟨p1, p2, p3, _⟩ := rV_parts h.1.1
  have := vS_ediv h.2 (small_nS p2) p3
  exact ⟨this.1, this.2, by rw [ofI_ten (by omega)]; exact vS_tenT (by omega)⟩
set_option maxRecDepth 100000 in
set_option maxHeartbeats 1000000 in
theorem ref4Down_no (a1 a2 : ByteArray) (p : Int) (h : (rV (a1, a2) && decide (0 ≤ p ∧ p ≤ 30) && small (nS a1 * ten p.toNat)) = false) (w : World) (ha : Sz (a1, a2)) :
    Calls Tryz.prog 36 #[.agg #[.string a1, .string a2], .int .i64 p] w (RatPost (noR, 40) w) := by
  have C := Lib.hid (fun w => grid_bad a1 a2 p h w ha)
  clear h ha
  have q0 : Blk ((w.alloc (.cells #[.string a1, .string a2] 23)).alloc (.cells #[.string ⟨#[]⟩, .string ⟨#[]⟩] 23)) (w.heap.size) #[.string a1, .string a2] 23 := (Blk.new w _ _).alloc _
  have q1 : Blk ((w.alloc (.cells #[.string a1, .string a2] 23)).alloc (.cells #[.string ⟨#[]⟩, .string ⟨#[]⟩] 23)) (w.heap.size + 1) #[.string ⟨#[]⟩, .string ⟨#[]⟩] 23 := Blk.newAt _ _ _ (by simp)
  have qL : Below w.heap.size w ((w.alloc (.cells #[.string a1, .string a2] 23)).alloc (.cells #[.string ⟨#[]⟩, .string ⟨#[]⟩] 23)) := ((Below.refl _ w).alloc (Nat.le_refl _) _).alloc (by simp <;> omega) _
  have A0 := Lib.hid q0
  have R0 := Lib.hid q1
  have L0 := Lib.hid qL
  clear qL q0 q1
  go_enter Tryz.func36, Tryz.ntmps36
  go_wp2_with fail
  try simp only [Nat.add_assoc, Nat.reduceAdd]
  generalize ((w.alloc (.cells #[.string a1, .string a2] 23)).alloc (.cells #[.string ⟨#[]⟩, .string ⟨#[]⟩] 23)) = w0 at *
  obtain ⟨a00, a01, a0f, a0g, a0l⟩ := blk2 A0.out
  obtain ⟨r00, r01, r0f, r0g, r0l⟩ := blk2 R0.out
  refine (C.out _).mono ?_
  rintro e w1 ⟨rfl, hb1⟩
  have A1 := Lib.hid (Blk.below A0.out hb1 A0.out.lt)
  have R1 := Lib.hid (Blk.below R0.out hb1 R0.out.lt)
  have L1 := Lib.hid (L0.out.trans (hb1.mono L0.out.size))
  clear hb1
  obtain ⟨a10, a11, a1f, a1g, a1l⟩ := blk2 A1.out
  obtain ⟨r10, r11, r1f, r1g, r1l⟩ := blk2 R1.out
  go_wp2
  refine bodyPost_ret (v := vRE (noR, 40)) (by simp [results, Tryz.results36, go_sem, noR, r10, r11, r1f, r1g, r1l]; rfl) rfl ⟨rfl, ?_⟩
  exact (L1.out.setCell (by simp) _).setCell (by simp) _
set_option maxRecDepth 100000 in
set_option maxHeartbeats 1000000 in
theorem ref4Down_yes (a1 a2 : ByteArray) (p : Int) (h : (rV (a1, a2) && decide (0 ≤ p ∧ p ≤ 30) && small (nS a1 * ten p.toNat)) = true) (w : World) (ha : Sz (a1, a2)) :
    Calls Tryz.prog 36 #[.agg #[.string a1, .string a2], .int .i64 p] w (RatPost (rMk (nS a1 * ten p.toNat / nS a2) (ten p.toNat)) w) := by
  have C := Lib.hid (fun w => grid_ok a1 a2 p h w ha)
  obtain ⟨v1, v2, v3⟩ := grid_vS h
  have E := eq48 v2
  rw [nS_ofI] at E
  generalize ofI (nS a1 * ten p.toNat % nS a2) = tr at *
  generalize nS a1 * ten p.toNat / nS a2 = Q at *
  generalize nS a1 * ten p.toNat % nS a2 = R at *
  have K := Lib.hid (fun w => ref4Make_any (ofI Q) (ofI (ten p.toNat)) w (size_vS v1) (size_vS v3))
  rw [rMake_ofI] at K
  generalize rMk Q (ten p.toNat) = r at *
  generalize ofI (ten p.toNat) = t at *
  generalize ofI Q = tq at *
  clear ha v1 v2 v3 E
  have q0 : Blk ((w.alloc (.cells #[.string a1, .string a2] 23)).alloc (.cells #[.string ⟨#[]⟩, .string ⟨#[]⟩] 23)) (w.heap.size) #[.string a1, .string a2] 23 := (Blk.new w _ _).alloc _
  have q1 : Blk ((w.alloc (.cells #[.string a1, .string a2] 23)).alloc (.cells #[.string ⟨#[]⟩, .string ⟨#[]⟩] 23)) (w.heap.size + 1) #[.string ⟨#[]⟩, .string ⟨#[]⟩] 23 := Blk.newAt _ _ _ (by simp)
  have qL : Below w.heap.size w ((w.alloc (.cells #[.string a1, .string a2] 23)).alloc (.cells #[.string ⟨#[]⟩, .string ⟨#[]⟩] 23)) := ((Below.refl _ w).alloc (Nat.le_refl _) _).alloc (by simp <;> omega) _
  have A0 := Lib.hid q0
  have R0 := Lib.hid q1
  have L0 := Lib.hid qL
  clear qL q0 q1
  go_enter Tryz.func36, Tryz.ntmps36
  go_wp2_with fail
  try simp only [Nat.add_assoc, Nat.reduceAdd]
  generalize ((w.alloc (.cells #[.string a1, .string a2] 23)).alloc (.cells #[.string ⟨#[]⟩, .string ⟨#[]⟩] 23)) = w0 at *
  obtain ⟨a00, a01, a0f, a0g, a0l⟩ := blk2 A0.out
  obtain ⟨r00, r01, r0f, r0g, r0l⟩ := blk2 R0.out
  refine (C.out _).mono ?_
  rintro e w1 ⟨rfl, hb1⟩
  have A1 := Lib.hid (Blk.below A0.out hb1 A0.out.lt)
  have R1 := Lib.hid (Blk.below R0.out hb1 R0.out.lt)
  have L1 := Lib.hid (L0.out.trans (hb1.mono L0.out.size))
  clear hb1
  obtain ⟨a10, a11, a1f, a1g, a1l⟩ := blk2 A1.out
  obtain ⟨r10, r11, r1f, r1g, r1l⟩ := blk2 R1.out
  go_wp2_with fail
  refine (K.out _).mono ?_
  rintro e w2 ⟨rfl, hb2⟩
  have A2 := Lib.hid (Blk.below A1.out hb2 A1.out.lt)
  have R2 := Lib.hid (Blk.below R1.out hb2 R1.out.lt)
  have L2 := Lib.hid (L1.out.trans (hb2.mono L1.out.size))
  clear hb2
  obtain ⟨a20, a21, a2f, a2g, a2l⟩ := blk2 A2.out
  obtain ⟨r20, r21, r2f, r2g, r2l⟩ := blk2 R2.out
  obtain ⟨⟨q1, q2⟩, q3⟩ := r
  go_wp2
  refine bodyPost_ret (v := vRE ((q1, q2), q3)) (by simp [results, Tryz.results36, go_sem, r20, r21, r2f, r2g, r2l]) rfl ⟨rfl, ?_⟩
  exact (L2.out.setCell (by simp) _).setCell (by simp) _
theorem ref4Down_any (a : RS) (p : Int) (w : World) (ha : Sz a) : Calls Tryz.prog 36 #[vR a, .int .i64 p] w (RatPost (rDown a p) w) := by
  obtain ⟨a1, a2⟩ := a
  show Calls _ _ #[.agg #[.string a1, .string a2], _] _ _
  unfold rDown
  cases h : (rV (a1, a2) && decide (0 ≤ p ∧ p ≤ 30) && small (nS a1 * ten p.toNat)) with
  | false => rw [if_neg (by simp)]; exact ref4Down_no a1 a2 p h w ha
  | true => rw [if_pos rfl]; exact ref4Down_yes a1 a2 p h w ha
set_option maxRecDepth 100000 in
set_option maxHeartbeats 1000000 in
theorem ref4Up_no (a1 a2 : ByteArray) (p : Int) (h : (rV (a1, a2) && decide (0 ≤ p ∧ p ≤ 30) && small (nS a1 * ten p.toNat)) = false) (w : World) (ha : Sz (a1, a2)) :
    Calls Tryz.prog 38 #[.agg #[.string a1, .string a2], .int .i64 p] w (RatPost (noR, 40) w) := by
  have C := Lib.hid (fun w => grid_bad a1 a2 p h w ha)
  clear h ha
  have q0 : Blk ((w.alloc (.cells #[.string a1, .string a2] 23)).alloc (.cells #[.string ⟨#[]⟩, .string ⟨#[]⟩] 23)) (w.heap.size) #[.string a1, .string a2] 23 := (Blk.new w _ _).alloc _
  have q1 : Blk ((w.alloc (.cells #[.string a1, .string a2] 23)).alloc (.cells #[.string ⟨#[]⟩, .string ⟨#[]⟩] 23)) (w.heap.size + 1) #[.string ⟨#[]⟩, .string ⟨#[]⟩] 23 := Blk.newAt _ _ _ (by simp)
  have qL : Below w.heap.size w ((w.alloc (.cells #[.string a1, .string a2] 23)).alloc (.cells #[.string ⟨#[]⟩, .string ⟨#[]⟩] 23)) := ((Below.refl _ w).alloc (Nat.le_refl _) _).alloc (by simp <;> omega) _
  have A0 := Lib.hid q0
  have R0 := Lib.hid q1
  have L0 := Lib.hid qL
  clear qL q0 q1
  go_enter Tryz.func38, Tryz.ntmps38
  go_wp2_with fail
  try simp only [Nat.add_assoc, Nat.reduceAdd]
  generalize ((w.alloc (.cells #[.string a1, .string a2] 23)).alloc (.cells #[.string ⟨#[]⟩, .string ⟨#[]⟩] 23)) = w0 at *
  obtain ⟨a00, a01, a0f, a0g, a0l⟩ := blk2 A0.out
  obtain ⟨r00, r01, r0f, r0g, r0l⟩ := blk2 R0.out
  refine (C.out _).mono ?_
  rintro e w1 ⟨rfl, hb1⟩
  have A1 := Lib.hid (Blk.below A0.out hb1 A0.out.lt)
  have R1 := Lib.hid (Blk.below R0.out hb1 R0.out.lt)
  have L1 := Lib.hid (L0.out.trans (hb1.mono L0.out.size))
  clear hb1
  obtain ⟨a10, a11, a1f, a1g, a1l⟩ := blk2 A1.out
  obtain ⟨r10, r11, r1f, r1g, r1l⟩ := blk2 R1.out
  go_wp2
  refine bodyPost_ret (v := vRE (noR, 40)) (by simp [results, Tryz.results38, go_sem, noR, r10, r11, r1f, r1g, r1l]; rfl) rfl ⟨rfl, ?_⟩
  exact (L1.out.setCell (by simp) _).setCell (by simp) _
set_option maxRecDepth 100000 in
set_option maxHeartbeats 1000000 in
theorem ref4Up_zero (a1 a2 : ByteArray) (p : Int) (h : (rV (a1, a2) && decide (0 ≤ p ∧ p ≤ 30) && small (nS a1 * ten p.toNat)) = true) (h0 : nS a1 * ten p.toNat % nS a2 = 0) (w : World) (ha : Sz (a1, a2)) :
    Calls Tryz.prog 38 #[.agg #[.string a1, .string a2], .int .i64 p] w (RatPost (rMk (nS a1 * ten p.toNat / nS a2) (ten p.toNat)) w) := by
  have C := Lib.hid (fun w => grid_ok a1 a2 p h w ha)
  obtain ⟨v1, v2, v3⟩ := grid_vS h
  have E := eq48 v2
  rw [nS_ofI] at E
  generalize ofI (nS a1 * ten p.toNat % nS a2) = tr at *
  generalize nS a1 * ten p.toNat / nS a2 = Q at *
  generalize nS a1 * ten p.toNat % nS a2 = R at *
  have t1 : (tr.toList == [48]) = true := by rw [E]; simp [h0]
  clear h0
  have K := Lib.hid (fun w => ref4Make_any (ofI Q) (ofI (ten p.toNat)) w (size_vS v1) (size_vS v3))
  rw [rMake_ofI] at K
  generalize rMk Q (ten p.toNat) = r at *
  generalize ofI (ten p.toNat) = t at *
  generalize ofI Q = tq at *
  clear ha v1 v2 v3 E
  have q0 : Blk ((w.alloc (.cells #[.string a1, .string a2] 23)).alloc (.cells #[.string ⟨#[]⟩, .string ⟨#[]⟩] 23)) (w.heap.size) #[.string a1, .string a2] 23 := (Blk.new w _ _).alloc _
  have q1 : Blk ((w.alloc (.cells #[.string a1, .string a2] 23)).alloc (.cells #[.string ⟨#[]⟩, .string ⟨#[]⟩] 23)) (w.heap.size + 1) #[.string ⟨#[]⟩, .string ⟨#[]⟩] 23 := Blk.newAt _ _ _ (by simp)
  have qL : Below w.heap.size w ((w.alloc (.cells #[.string a1, .string a2] 23)).alloc (.cells #[.string ⟨#[]⟩, .string ⟨#[]⟩] 23)) := ((Below.refl _ w).alloc (Nat.le_refl _) _).alloc (by simp <;> omega) _
  have A0 := Lib.hid q0
  have R0 := Lib.hid q1
  have L0 := Lib.hid qL
  clear qL q0 q1
  go_enter Tryz.func38, Tryz.ntmps38
  go_wp2_with fail
  try simp only [Nat.add_assoc, Nat.reduceAdd]
  generalize ((w.alloc (.cells #[.string a1, .string a2] 23)).alloc (.cells #[.string ⟨#[]⟩, .string ⟨#[]⟩] 23)) = w0 at *
  obtain ⟨a00, a01, a0f, a0g, a0l⟩ := blk2 A0.out
  obtain ⟨r00, r01, r0f, r0g, r0l⟩ := blk2 R0.out
  refine (C.out _).mono ?_
  rintro e w1 ⟨rfl, hb1⟩
  have A1 := Lib.hid (Blk.below A0.out hb1 A0.out.lt)
  have R1 := Lib.hid (Blk.below R0.out hb1 R0.out.lt)
  have L1 := Lib.hid (L0.out.trans (hb1.mono L0.out.size))
  clear hb1
  obtain ⟨a10, a11, a1f, a1g, a1l⟩ := blk2 A1.out
  obtain ⟨r10, r11, r1f, r1g, r1l⟩ := blk2 R1.out
  go_wp2_with fail
  refine (K.out _).mono ?_
  rintro e w2 ⟨rfl, hb2⟩
  have A2 := Lib.hid (Blk.below A1.out hb2 A1.out.lt)
  have R2 := Lib.hid (Blk.below R1.out hb2 R1.out.lt)
  have L2 := Lib.hid (L1.out.trans (hb2.mono L1.out.size))
  clear hb2
  obtain ⟨a20, a21, a2f, a2g, a2l⟩ := blk2 A2.out
  obtain ⟨r20, r21, r2f, r2g, r2l⟩ := blk2 R2.out
  obtain ⟨⟨q1, q2⟩, q3⟩ := r
  go_wp2
  refine bodyPost_ret (v := vRE ((q1, q2), q3)) (by simp [results, Tryz.results38, go_sem, r20, r21, r2f, r2g, r2l]) rfl ⟨rfl, ?_⟩
  exact (L2.out.setCell (by simp) _).setCell (by simp) _
set_option maxRecDepth 100000 in
set_option maxHeartbeats 1000000 in
theorem ref4Up_big (a1 a2 : ByteArray) (p : Int) (h : (rV (a1, a2) && decide (0 ≤ p ∧ p ≤ 30) && small (nS a1 * ten p.toNat)) = true) (h0 : nS a1 * ten p.toNat % nS a2 ≠ 0) (h4 : small (nS a1 * ten p.toNat / nS a2 + 1) = false) (w : World) (ha : Sz (a1, a2)) :
    Calls Tryz.prog 38 #[.agg #[.string a1, .string a2], .int .i64 p] w (RatPost (noR, 40) w) := by
  have C := Lib.hid (fun w => grid_ok a1 a2 p h w ha)
  obtain ⟨v1, v2, v3⟩ := grid_vS h
  have E := eq48 v2
  rw [nS_ofI] at E
  generalize ofI (nS a1 * ten p.toNat % nS a2) = tr at *
  generalize nS a1 * ten p.toNat / nS a2 = Q at *
  generalize nS a1 * ten p.toNat % nS a2 = R at *
  have t1 : (tr.toList == [48]) = false := by rw [E]; simp [h0]
  clear h0
  have M := Lib.hid (fun w => refAdd_any (ofI Q) ⟨#[49]⟩ w (size_vS v1) (by decide))
  rw [iAdd_chk v1 vS_one, nS_ofI, nS_one'] at M
  rw [chkI_none h4] at M
  generalize ofI (ten p.toNat) = t at *
  generalize ofI Q = tq at *
  clear ha v1 v2 v3 E h4
  have q0 : Blk ((w.alloc (.cells #[.string a1, .string a2] 23)).alloc (.cells #[.string ⟨#[]⟩, .string ⟨#[]⟩] 23)) (w.heap.size) #[.string a1, .string a2] 23 := (Blk.new w _ _).alloc _
  have q1 : Blk ((w.alloc (.cells #[.string a1, .string a2] 23)).alloc (.cells #[.string ⟨#[]⟩, .string ⟨#[]⟩] 23)) (w.heap.size + 1) #[.string ⟨#[]⟩, .string ⟨#[]⟩] 23 := Blk.newAt _ _ _ (by simp)
  have qL : Below w.heap.size w ((w.alloc (.cells #[.string a1, .string a2] 23)).alloc (.cells #[.string ⟨#[]⟩, .string ⟨#[]⟩] 23)) := ((Below.refl _ w).alloc (Nat.le_refl _) _).alloc (by simp <;> omega) _
  have A0 := Lib.hid q0
  have R0 := Lib.hid q1
  have L0 := Lib.hid qL
  clear qL q0 q1
  go_enter Tryz.func38, Tryz.ntmps38
  go_wp2_with fail
  try simp only [Nat.add_assoc, Nat.reduceAdd]
  generalize ((w.alloc (.cells #[.string a1, .string a2] 23)).alloc (.cells #[.string ⟨#[]⟩, .string ⟨#[]⟩] 23)) = w0 at *
  obtain ⟨a00, a01, a0f, a0g, a0l⟩ := blk2 A0.out
  obtain ⟨r00, r01, r0f, r0g, r0l⟩ := blk2 R0.out
  refine (C.out _).mono ?_
  rintro e w1 ⟨rfl, hb1⟩
  have A1 := Lib.hid (Blk.below A0.out hb1 A0.out.lt)
  have R1 := Lib.hid (Blk.below R0.out hb1 R0.out.lt)
  have L1 := Lib.hid (L0.out.trans (hb1.mono L0.out.size))
  clear hb1
  obtain ⟨a10, a11, a1f, a1g, a1l⟩ := blk2 A1.out
  obtain ⟨r10, r11, r1f, r1g, r1l⟩ := blk2 R1.out
  go_wp2_with fail
  refine (M.out _).mono ?_
  rintro e w2 ⟨rfl, hb2⟩
  have A2 := Lib.hid (Blk.below A1.out hb2 A1.out.lt)
  have R2 := Lib.hid (Blk.below R1.out hb2 R1.out.lt)
  have L2 := Lib.hid (L1.out.trans (hb2.mono L1.out.size))
  clear hb2
  obtain ⟨a20, a21, a2f, a2g, a2l⟩ := blk2 A2.out
  obtain ⟨r20, r21, r2f, r2g, r2l⟩ := blk2 R2.out
  go_wp2
  refine bodyPost_ret (v := vRE (noR, 40)) (by simp [results, Tryz.results38, go_sem, noR, r20, r21, r2f, r2g, r2l]; rfl) rfl ⟨rfl, ?_⟩
  exact (L2.out.setCell (by simp) _).setCell (by simp) _
set_option maxRecDepth 100000 in
set_option maxHeartbeats 1000000 in
theorem ref4Up_next (a1 a2 : ByteArray) (p : Int) (h : (rV (a1, a2) && decide (0 ≤ p ∧ p ≤ 30) && small (nS a1 * ten p.toNat)) = true) (h0 : nS a1 * ten p.toNat % nS a2 ≠ 0) (h4 : small (nS a1 * ten p.toNat / nS a2 + 1) = true) (w : World) (ha : Sz (a1, a2)) :
    Calls Tryz.prog 38 #[.agg #[.string a1, .string a2], .int .i64 p] w (RatPost (rMk (nS a1 * ten p.toNat / nS a2 + 1) (ten p.toNat)) w) := by
  have C := Lib.hid (fun w => grid_ok a1 a2 p h w ha)
  obtain ⟨v1, v2, v3⟩ := grid_vS h
  have E := eq48 v2
  rw [nS_ofI] at E
  generalize ofI (nS a1 * ten p.toNat % nS a2) = tr at *
  generalize nS a1 * ten p.toNat / nS a2 = Q at *
  generalize nS a1 * ten p.toNat % nS a2 = R at *
  have t1 : (tr.toList == [48]) = false := by rw [E]; simp [h0]
  clear h0
  have M := Lib.hid (fun w => refAdd_any (ofI Q) ⟨#[49]⟩ w (size_vS v1) (by decide))
  rw [iAdd_chk v1 vS_one, nS_ofI, nS_one'] at M
  rw [chkI_fits h4] at M
  have K := Lib.hid (fun w => ref4Make_any (ofI (Q + 1)) (ofI (ten p.toNat)) w (size_vS (vS_small h4)) (size_vS v3))
  rw [rMake_ofI] at K
  generalize rMk (Q + 1) (ten p.toNat) = r at *
  generalize ofI (ten p.toNat) = t at *
  generalize ofI (Q + 1) = tz at *
  generalize ofI Q = tq at *
  clear ha v1 v2 v3 E h4
  have q0 : Blk ((w.alloc (.cells #[.string a1, .string a2] 23)).alloc (.cells #[.string ⟨#[]⟩, .string ⟨#[]⟩] 23)) (w.heap.size) #[.string a1, .string a2] 23 := (Blk.new w _ _).alloc _
  have q1 : Blk ((w.alloc (.cells #[.string a1, .string a2] 23)).alloc (.cells #[.string ⟨#[]⟩, .string ⟨#[]⟩] 23)) (w.heap.size + 1) #[.string ⟨#[]⟩, .string ⟨#[]⟩] 23 := Blk.newAt _ _ _ (by simp)
  have qL : Below w.heap.size w ((w.alloc (.cells #[.string a1, .string a2] 23)).alloc (.cells #[.string ⟨#[]⟩, .string ⟨#[]⟩] 23)) := ((Below.refl _ w).alloc (Nat.le_refl _) _).alloc (by simp <;> omega) _
  have A0 := Lib.hid q0
  have R0 := Lib.hid q1
  have L0 := Lib.hid qL
  clear qL q0 q1
  go_enter Tryz.func38, Tryz.ntmps38
  go_wp2_with fail
  try simp only [Nat.add_assoc, Nat.reduceAdd]
  generalize ((w.alloc (.cells #[.string a1, .string a2] 23)).alloc (.cells #[.string ⟨#[]⟩, .string ⟨#[]⟩] 23)) = w0 at *
  obtain ⟨a00, a01, a0f, a0g, a0l⟩ := blk2 A0.out
  obtain ⟨r00, r01, r0f, r0g, r0l⟩ := blk2 R0.out
  refine (C.out _).mono ?_
  rintro e w1 ⟨rfl, hb1⟩
  have A1 := Lib.hid (Blk.below A0.out hb1 A0.out.lt)
  have R1 := Lib.hid (Blk.below R0.out hb1 R0.out.lt)
  have L1 := Lib.hid (L0.out.trans (hb1.mono L0.out.size))
  clear hb1
  obtain ⟨a10, a11, a1f, a1g, a1l⟩ := blk2 A1.out
  obtain ⟨r10, r11, r1f, r1g, r1l⟩ := blk2 R1.out
  go_wp2_with fail
  refine (M.out _).mono ?_
  rintro e w2 ⟨rfl, hb2⟩
  have A2 := Lib.hid (Blk.below A1.out hb2 A1.out.lt)
  have R2 := Lib.hid (Blk.below R1.out hb2 R1.out.lt)
  have L2 := Lib.hid (L1.out.trans (hb2.mono L1.out.size))
  clear hb2
  obtain ⟨a20, a21, a2f, a2g, a2l⟩ := blk2 A2.out
  obtain ⟨r20, r21, r2f, r2g, r2l⟩ := blk2 R2.out
  go_wp2_with fail
  refine (K.out _).mono ?_
  rintro e w3 ⟨rfl, hb3⟩
  have A3 := Lib.hid (Blk.below A2.out hb3 A2.out.lt)
  have R3 := Lib.hid (Blk.below R2.out hb3 R2.out.lt)
  have L3 := Lib.hid (L2.out.trans (hb3.mono L2.out.size))
  clear hb3
  obtain ⟨a30, a31, a3f, a3g, a3l⟩ := blk2 A3.out
  obtain ⟨r30, r31, r3f, r3g, r3l⟩ := blk2 R3.out
  obtain ⟨⟨q1, q2⟩, q3⟩ := r
  go_wp2
  refine bodyPost_ret (v := vRE ((q1, q2), q3)) (by simp [results, Tryz.results38, go_sem, r30, r31, r3f, r3g, r3l]) rfl ⟨rfl, ?_⟩
  exact (L3.out.setCell (by simp) _).setCell (by simp) _
theorem ref4Up_any (a : RS) (p : Int) (w : World) (ha : Sz a) : Calls Tryz.prog 38 #[vR a, .int .i64 p] w (RatPost (rUp a p) w) := by
  obtain ⟨a1, a2⟩ := a
  show Calls _ _ #[.agg #[.string a1, .string a2], _] _ _
  unfold rUp
  cases h : (rV (a1, a2) && decide (0 ≤ p ∧ p ≤ 30) && small (nS a1 * ten p.toNat)) with
  | false => rw [if_neg (by simp)]; exact ref4Up_no a1 a2 p h w ha
  | true =>
    rw [if_pos rfl]
    by_cases h0 : nS a1 * ten p.toNat % nS a2 = 0
    · rw [if_pos h0]; exact ref4Up_zero a1 a2 p h h0 w ha
    · rw [if_neg h0]
      cases h4 : small (nS a1 * ten p.toNat / nS a2 + 1) with
      | false => rw [rMk_no (by simp [h4])]; exact ref4Up_big a1 a2 p h h0 h4 w ha
      | true => exact ref4Up_next a1 a2 p h h0 h4 w ha
end Go.Proofs.YtgeoidnleagloaaGreatDoor
