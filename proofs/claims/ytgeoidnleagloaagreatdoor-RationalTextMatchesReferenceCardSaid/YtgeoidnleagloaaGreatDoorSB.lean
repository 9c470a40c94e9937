/- Walks of the reference's fractions: the four operations. -/
import Derived.Test.YtgeoidnleagloaaGreatDoorSA
set_option linter.unusedVariables false
set_option linter.unusedSimpArgs false
namespace Go.Proofs.YtgeoidnleagloaaGreatDoor
open Go.RowKit Yk

theorem ref4Valid_is {n d : ByteArray} {v : Bool} (h : rV (n, d) = v) (w : World) (ha : Sz (n, d)) : Calls Tryz.prog 40 #[.agg #[.string n, .string d]] w fun e w' => e = .returned (.bool v) ∧ Below w.heap.size w w' := by
  have := ref4Valid_any (n, d) w ha; rwa [h] at this
theorem iMul_err {x y : ByteArray} (hx : vS x = true) (hy : vS y = true) : ((iMul x y).2 == 0) = small (nS x * nS y) := by
  rw [iMul_chk hx hy]
  unfold chkI small
  by_cases h : (nS x * nS y).natAbs < BIG <;> simp [h]
theorem iMul_val {x y : ByteArray} (hx : vS x = true) (hy : vS y = true) (h : small (nS x * nS y) = true) : iMul x y = (ofI (nS x * nS y), 0) := by rw [iMul_chk hx hy, chkI_fits h]
theorem mul_comm_no {x y : ByteArray} (hx : vS x = true) (hy : vS y = true) (h : small (nS x * nS y) = false) : iMul x y = (ByteArray.empty, 30) := by
  rw [iMul_chk hx hy]; unfold chkI; rw [if_neg]; intro h2; rw [small_iff.2 h2] at h; cases h
theorem chkI_none {s : Int} (h : small s = false) : chkI s = (ByteArray.empty, 30) := by unfold chkI; rw [if_neg]; intro h2; rw [small_iff.2 h2] at h; cases h
set_option maxRecDepth 100000 in
set_option maxHeartbeats 1000000 in
theorem cross_no1 (a1 a2 b1 b2 : ByteArray) (hva : rV (a1, a2) = false) (v : Bool) (hvb : rV (b1, b2) = v) (w : World) (ha : Sz (a1, a2)) (hb : Sz (b1, b2)) :
    Calls Tryz.prog 63 #[.agg #[.string a1, .string a2], .agg #[.string b1, .string b2]] w fun e w' => e = .returned (.tuple #[.string ⟨#[]⟩, .string ⟨#[]⟩, .string ⟨#[]⟩, .bool false]) ∧ Below w.heap.size w w' := by
  have VA := Lib.hid (fun w => ref4Valid_is hva w ha)
  have VB := Lib.hid (fun w => ref4Valid_is hvb w hb)
  clear hva hvb ha hb
  have q0 : Blk ((w.alloc (.cells #[.string a1, .string a2] 23)).alloc (.cells #[.string b1, .string b2] 23)) (w.heap.size) #[.string a1, .string a2] 23 := (Blk.new w _ _).alloc _
  have q1 : Blk ((w.alloc (.cells #[.string a1, .string a2] 23)).alloc (.cells #[.string b1, .string b2] 23)) (w.heap.size + 1) #[.string b1, .string b2] 23 := Blk.newAt _ _ _ (by simp)
  have qL : Below w.heap.size w ((w.alloc (.cells #[.string a1, .string a2] 23)).alloc (.cells #[.string b1, .string b2] 23)) := ((Below.refl _ w).alloc (Nat.le_refl _) _).alloc (by simp <;> omega) _
  have A0 := Lib.hid q0
  have B0 := Lib.hid q1
  have L0 := Lib.hid qL
  clear qL q0 q1
  go_enter Tryz.func63, Tryz.ntmps63
  go_wp2_with fail
  try simp only [Nat.add_assoc, Nat.reduceAdd]
  generalize ((w.alloc (.cells #[.string a1, .string a2] 23)).alloc (.cells #[.string b1, .string b2] 23)) = w0 at *
  obtain ⟨a00, a01, a0f, a0g, a0l⟩ := blk2 A0.out
  obtain ⟨b00, b01, b0f, b0g, b0l⟩ := blk2 B0.out
  refine (VA.out _).mono ?_
  rintro e w1 ⟨rfl, hb1⟩
  have A1 := Lib.hid (Blk.below A0.out hb1 A0.out.lt)
  have B1 := Lib.hid (Blk.below B0.out hb1 B0.out.lt)
  have L1 := Lib.hid (L0.out.trans (hb1.mono L0.out.size))
  clear hb1
  obtain ⟨a10, a11, a1f, a1g, a1l⟩ := blk2 A1.out
  obtain ⟨b10, b11, b1f, b1g, b1l⟩ := blk2 B1.out
  go_wp2_with fail
  refine (VB.out _).mono ?_
  rintro e w2 ⟨rfl, hb2⟩
  have A2 := Lib.hid (Blk.below A1.out hb2 A1.out.lt)
  have B2 := Lib.hid (Blk.below B1.out hb2 B1.out.lt)
  have L2 := Lib.hid (L1.out.trans (hb2.mono L1.out.size))
  clear hb2
  obtain ⟨a20, a21, a2f, a2g, a2l⟩ := blk2 A2.out
  obtain ⟨b20, b21, b2f, b2g, b2l⟩ := blk2 B2.out
  cases v
  · skip
    go_wp2
    refine bodyPost_ret (v := .tuple #[.string ⟨#[]⟩, .string ⟨#[]⟩, .string ⟨#[]⟩, .bool false]) (by simp [results, Tryz.results63, go_sem]) rfl ⟨rfl, L2.out⟩
  · skip
    go_wp2
    refine bodyPost_ret (v := .tuple #[.string ⟨#[]⟩, .string ⟨#[]⟩, .string ⟨#[]⟩, .bool false]) (by simp [results, Tryz.results63, go_sem]) rfl ⟨rfl, L2.out⟩
set_option maxRecDepth 100000 in
set_option maxHeartbeats 1000000 in
theorem cross_no2 (a1 a2 b1 b2 : ByteArray) (hva : rV (a1, a2) = true) (hvb : rV (b1, b2) = false) (w : World) (ha : Sz (a1, a2)) (hb : Sz (b1, b2)) :
    Calls Tryz.prog 63 #[.agg #[.string a1, .string a2], .agg #[.string b1, .string b2]] w fun e w' => e = .returned (.tuple #[.string ⟨#[]⟩, .string ⟨#[]⟩, .string ⟨#[]⟩, .bool false]) ∧ Below w.heap.size w w' := by
  have VA := Lib.hid (fun w => ref4Valid_is hva w ha)
  have VB := Lib.hid (fun w => ref4Valid_is hvb w hb)
  clear hva hvb ha hb
  have q0 : Blk ((w.alloc (.cells #[.string a1, .string a2] 23)).alloc (.cells #[.string b1, .string b2] 23)) (w.heap.size) #[.string a1, .string a2] 23 := (Blk.new w _ _).alloc _
  have q1 : Blk ((w.alloc (.cells #[.string a1, .string a2] 23)).alloc (.cells #[.string b1, .string b2] 23)) (w.heap.size + 1) #[.string b1, .string b2] 23 := Blk.newAt _ _ _ (by simp)
  have qL : Below w.heap.size w ((w.alloc (.cells #[.string a1, .string a2] 23)).alloc (.cells #[.string b1, .string b2] 23)) := ((Below.refl _ w).alloc (Nat.le_refl _) _).alloc (by simp <;> omega) _
  have A0 := Lib.hid q0
  have B0 := Lib.hid q1
  have L0 := Lib.hid qL
  clear qL q0 q1
  go_enter Tryz.func63, Tryz.ntmps63
  go_wp2_with fail
  try simp only [Nat.add_assoc, Nat.reduceAdd]
  generalize ((w.alloc (.cells #[.string a1, .string a2] 23)).alloc (.cells #[.string b1, .string b2] 23)) = w0 at *
  obtain ⟨a00, a01, a0f, a0g, a0l⟩ := blk2 A0.out
  obtain ⟨b00, b01, b0f, b0g, b0l⟩ := blk2 B0.out
  refine (VA.out _).mono ?_
  rintro e w1 ⟨rfl, hb1⟩
  have A1 := Lib.hid (Blk.below A0.out hb1 A0.out.lt)
  have B1 := Lib.hid (Blk.below B0.out hb1 B0.out.lt)
  have L1 := Lib.hid (L0.out.trans (hb1.mono L0.out.size))
  clear hb1
  obtain ⟨a10, a11, a1f, a1g, a1l⟩ := blk2 A1.out
  obtain ⟨b10, b11, b1f, b1g, b1l⟩ := blk2 B1.out
  go_wp2_with fail
  refine (VB.out _).mono ?_
  rintro e w2 ⟨rfl, hb2⟩
  have A2 := Lib.hid (Blk.below A1.out hb2 A1.out.lt)
  have B2 := Lib.hid (Blk.below B1.out hb2 B1.out.lt)
  have L2 := Lib.hid (L1.out.trans (hb2.mono L1.out.size))
  clear hb2
  obtain ⟨a20, a21, a2f, a2g, a2l⟩ := blk2 A2.out
  obtain ⟨b20, b21, b2f, b2g, b2l⟩ := blk2 B2.out
  go_wp2
  refine bodyPost_ret (v := .tuple #[.string ⟨#[]⟩, .string ⟨#[]⟩, .string ⟨#[]⟩, .bool false]) (by simp [results, Tryz.results63, go_sem]) rfl ⟨rfl, L2.out⟩
set_option maxRecDepth 100000 in
set_option maxHeartbeats 1000000 in
theorem cross_f (a1 a2 b1 b2 : ByteArray) (hva : rV (a1, a2) = true) (hvb : rV (b1, b2) = true) (t1 : ((iMul a1 b2).2 == 0) = false)  (w : World) (ha : Sz (a1, a2)) (hb : Sz (b1, b2)) :
    Calls Tryz.prog 63 #[.agg #[.string a1, .string a2], .agg #[.string b1, .string b2]] w fun e w' => e = .returned (.tuple #[.string (iMul a1 b2).1, .string (iMul b1 a2).1, .string (iMul a2 b2).1, .bool false]) ∧ Below w.heap.size w w' := by
  have VA := Lib.hid (fun w => ref4Valid_is hva w ha)
  have VB := Lib.hid (fun w => ref4Valid_is hvb w hb)
  have M1 := Lib.hid (fun w => refMul_any a1 b2 w ha.1 hb.2)
  have M2 := Lib.hid (fun w => refMul_any b1 a2 w hb.1 ha.2)
  have M3 := Lib.hid (fun w => refMul_any a2 b2 w ha.2 hb.2)
  generalize iMul a1 b2 = r1 at *
  generalize iMul b1 a2 = r2 at *
  generalize iMul a2 b2 = r3 at *
  obtain ⟨x1, e1⟩ := r1
  obtain ⟨x2, e2⟩ := r2
  obtain ⟨x3, e3⟩ := r3
  simp only at t1
  clear hva hvb ha hb
  have q0 : Blk ((w.alloc (.cells #[.string a1, .string a2] 23)).alloc (.cells #[.string b1, .string b2] 23)) (w.heap.size) #[.string a1, .string a2] 23 := (Blk.new w _ _).alloc _
  have q1 : Blk ((w.alloc (.cells #[.string a1, .string a2] 23)).alloc (.cells #[.string b1, .string b2] 23)) (w.heap.size + 1) #[.string b1, .string b2] 23 := Blk.newAt _ _ _ (by simp)
  have qL : Below w.heap.size w ((w.alloc (.cells #[.string a1, .string a2] 23)).alloc (.cells #[.string b1, .string b2] 23)) := ((Below.refl _ w).alloc (Nat.le_refl _) _).alloc (by simp <;> omega) _
  have A0 := Lib.hid q0
  have B0 := Lib.hid q1
  have L0 := Lib.hid qL
  clear qL q0 q1
  go_enter Tryz.func63, Tryz.ntmps63
  go_wp2_with fail
  try simp only [Nat.add_assoc, Nat.reduceAdd]
  generalize ((w.alloc (.cells #[.string a1, .string a2] 23)).alloc (.cells #[.string b1, .string b2] 23)) = w0 at *
  obtain ⟨a00, a01, a0f, a0g, a0l⟩ := blk2 A0.out
  obtain ⟨b00, b01, b0f, b0g, b0l⟩ := blk2 B0.out
  refine (VA.out _).mono ?_
  rintro e w1 ⟨rfl, hb1⟩
  have A1 := Lib.hid (Blk.below A0.out hb1 A0.out.lt)
  have B1 := Lib.hid (Blk.below B0.out hb1 B0.out.lt)
  have L1 := Lib.hid (L0.out.trans (hb1.mono L0.out.size))
  clear hb1
  obtain ⟨a10, a11, a1f, a1g, a1l⟩ := blk2 A1.out
  obtain ⟨b10, b11, b1f, b1g, b1l⟩ := blk2 B1.out
  go_wp2_with fail
  refine (VB.out _).mono ?_
  rintro e w2 ⟨rfl, hb2⟩
  have A2 := Lib.hid (Blk.below A1.out hb2 A1.out.lt)
  have B2 := Lib.hid (Blk.below B1.out hb2 B1.out.lt)
  have L2 := Lib.hid (L1.out.trans (hb2.mono L1.out.size))
  clear hb2
  obtain ⟨a20, a21, a2f, a2g, a2l⟩ := blk2 A2.out
  obtain ⟨b20, b21, b2f, b2g, b2l⟩ := blk2 B2.out
  go_wp2_with fail
  refine (M1.out _).mono ?_
  rintro e w3 ⟨rfl, hb3⟩
  have A3 := Lib.hid (Blk.below A2.out hb3 A2.out.lt)
  have B3 := Lib.hid (Blk.below B2.out hb3 B2.out.lt)
  have L3 := Lib.hid (L2.out.trans (hb3.mono L2.out.size))
  clear hb3
  obtain ⟨a30, a31, a3f, a3g, a3l⟩ := blk2 A3.out
  obtain ⟨b30, b31, b3f, b3g, b3l⟩ := blk2 B3.out
  go_wp2_with fail
  refine (M2.out _).mono ?_
  rintro e w4 ⟨rfl, hb4⟩
  have A4 := Lib.hid (Blk.below A3.out hb4 A3.out.lt)
  have B4 := Lib.hid (Blk.below B3.out hb4 B3.out.lt)
  have L4 := Lib.hid (L3.out.trans (hb4.mono L3.out.size))
  clear hb4
  obtain ⟨a40, a41, a4f, a4g, a4l⟩ := blk2 A4.out
  obtain ⟨b40, b41, b4f, b4g, b4l⟩ := blk2 B4.out
  go_wp2_with fail
  refine (M3.out _).mono ?_
  rintro e w5 ⟨rfl, hb5⟩
  have A5 := Lib.hid (Blk.below A4.out hb5 A4.out.lt)
  have B5 := Lib.hid (Blk.below B4.out hb5 B4.out.lt)
  have L5 := Lib.hid (L4.out.trans (hb5.mono L4.out.size))
  clear hb5
  obtain ⟨a50, a51, a5f, a5g, a5l⟩ := blk2 A5.out
  obtain ⟨b50, b51, b5f, b5g, b5l⟩ := blk2 B5.out
  go_wp2
  refine bodyPost_ret (v := .tuple #[.string x1, .string x2, .string x3, .bool false]) (by simp [results, Tryz.results63, go_sem]) rfl ⟨rfl, L5.out⟩
set_option maxRecDepth 100000 in
set_option maxHeartbeats 1000000 in
theorem cross_tf (a1 a2 b1 b2 : ByteArray) (hva : rV (a1, a2) = true) (hvb : rV (b1, b2) = true) (t1 : ((iMul a1 b2).2 == 0) = true) (t2 : ((iMul b1 a2).2 == 0) = false)  (w : World) (ha : Sz (a1, a2)) (hb : Sz (b1, b2)) :
    Calls Tryz.prog 63 #[.agg #[.string a1, .string a2], .agg #[.string b1, .string b2]] w fun e w' => e = .returned (.tuple #[.string (iMul a1 b2).1, .string (iMul b1 a2).1, .string (iMul a2 b2).1, .bool false]) ∧ Below w.heap.size w w' := by
  have VA := Lib.hid (fun w => ref4Valid_is hva w ha)
  have VB := Lib.hid (fun w => ref4Valid_is hvb w hb)
  have M1 := Lib.hid (fun w => refMul_any a1 b2 w ha.1 hb.2)
  have M2 := Lib.hid (fun w => refMul_any b1 a2 w hb.1 ha.2)
  have M3 := Lib.hid (fun w => refMul_any a2 b2 w ha.2 hb.2)
  generalize iMul a1 b2 = r1 at *
  generalize iMul b1 a2 = r2 at *
  generalize iMul a2 b2 = r3 at *
  obtain ⟨x1, e1⟩ := r1
  obtain ⟨x2, e2⟩ := r2
  obtain ⟨x3, e3⟩ := r3
  simp only at t1 t2
  clear hva hvb ha hb
  have q0 : Blk ((w.alloc (.cells #[.string a1, .string a2] 23)).alloc (.cells #[.string b1, .string b2] 23)) (w.heap.size) #[.string a1, .string a2] 23 := (Blk.new w _ _).alloc _
  have q1 : Blk ((w.alloc (.cells #[.string a1, .string a2] 23)).alloc (.cells #[.string b1, .string b2] 23)) (w.heap.size + 1) #[.string b1, .string b2] 23 := Blk.newAt _ _ _ (by simp)
  have qL : Below w.heap.size w ((w.alloc (.cells #[.string a1, .string a2] 23)).alloc (.cells #[.string b1, .string b2] 23)) := ((Below.refl _ w).alloc (Nat.le_refl _) _).alloc (by simp <;> omega) _
  have A0 := Lib.hid q0
  have B0 := Lib.hid q1
  have L0 := Lib.hid qL
  clear qL q0 q1
  go_enter Tryz.func63, Tryz.ntmps63
  go_wp2_with fail
  try simp only [Nat.add_assoc, Nat.reduceAdd]
  generalize ((w.alloc (.cells #[.string a1, .string a2] 23)).alloc (.cells #[.string b1, .string b2] 23)) = w0 at *
  obtain ⟨a00, a01, a0f, a0g, a0l⟩ := blk2 A0.out
  obtain ⟨b00, b01, b0f, b0g, b0l⟩ := blk2 B0.out
  refine (VA.out _).mono ?_
  rintro e w1 ⟨rfl, hb1⟩
  have A1 := Lib.hid (Blk.below A0.out hb1 A0.out.lt)
  have B1 := Lib.hid (Blk.below B0.out hb1 B0.out.lt)
  have L1 := Lib.hid (L0.out.trans (hb1.mono L0.out.size))
  clear hb1
  obtain ⟨a10, a11, a1f, a1g, a1l⟩ := blk2 A1.out
  obtain ⟨b10, b11, b1f, b1g, b1l⟩ := blk2 B1.out
  go_wp2_with fail
  refine (VB.out _).mono ?_
  rintro e w2 ⟨rfl, hb2⟩
  have A2 := Lib.hid (Blk.below A1.out hb2 A1.out.lt)
  have B2 := Lib.hid (Blk.below B1.out hb2 B1.out.lt)
  have L2 := Lib.hid (L1.out.trans (hb2.mono L1.out.size))
  clear hb2
  obtain ⟨a20, a21, a2f, a2g, a2l⟩ := blk2 A2.out
  obtain ⟨b20, b21, b2f, b2g, b2l⟩ := blk2 B2.out
  go_wp2_with fail
  refine (M1.out _).mono ?_
  rintro e w3 ⟨rfl, hb3⟩
  have A3 := Lib.hid (Blk.below A2.out hb3 A2.out.lt)
  have B3 := Lib.hid (Blk.below B2.out hb3 B2.out.lt)
  have L3 := Lib.hid (L2.out.trans (hb3.mono L2.out.size))
  clear hb3
  obtain ⟨a30, a31, a3f, a3g, a3l⟩ := blk2 A3.out
  obtain ⟨b30, b31, b3f, b3g, b3l⟩ := blk2 B3.out
  go_wp2_with fail
  refine (M2.out _).mono ?_
  rintro e w4 ⟨rfl, hb4⟩
  have A4 := Lib.hid (Blk.below A3.out hb4 A3.out.lt)
  have B4 := Lib.hid (Blk.below B3.out hb4 B3.out.lt)
  have L4 := Lib.hid (L3.out.trans (hb4.mono L3.out.size))
  clear hb4
  obtain ⟨a40, a41, a4f, a4g, a4l⟩ := blk2 A4.out
  obtain ⟨b40, b41, b4f, b4g, b4l⟩ := blk2 B4.out
  go_wp2_with fail
  refine (M3.out _).mono ?_
  rintro e w5 ⟨rfl, hb5⟩
  have A5 := Lib.hid (Blk.below A4.out hb5 A4.out.lt)
  have B5 := Lib.hid (Blk.below B4.out hb5 B4.out.lt)
  have L5 := Lib.hid (L4.out.trans (hb5.mono L4.out.size))
  clear hb5
  obtain ⟨a50, a51, a5f, a5g, a5l⟩ := blk2 A5.out
  obtain ⟨b50, b51, b5f, b5g, b5l⟩ := blk2 B5.out
  go_wp2
  refine bodyPost_ret (v := .tuple #[.string x1, .string x2, .string x3, .bool false]) (by simp [results, Tryz.results63, go_sem]) rfl ⟨rfl, L5.out⟩
set_option maxRecDepth 100000 in
set_option maxHeartbeats 1000000 in
theorem cross_ttf (a1 a2 b1 b2 : ByteArray) (hva : rV (a1, a2) = true) (hvb : rV (b1, b2) = true) (t1 : ((iMul a1 b2).2 == 0) = true) (t2 : ((iMul b1 a2).2 == 0) = true) (t3 : ((iMul a2 b2).2 == 0) = false) (w : World) (ha : Sz (a1, a2)) (hb : Sz (b1, b2)) :
    Calls Tryz.prog 63 #[.agg #[.string a1, .string a2], .agg #[.string b1, .string b2]] w fun e w' => e = .returned (.tuple #[.string (iMul a1 b2).1, .string (iMul b1 a2).1, .string (iMul a2 b2).1, .bool false]) ∧ Below w.heap.size w w' := by
  have VA := Lib.hid (fun w => ref4Valid_is hva w ha)
  have VB := Lib.hid (fun w => ref4Valid_is hvb w hb)
  have M1 := Lib.hid (fun w => refMul_any a1 b2 w ha.1 hb.2)
  have M2 := Lib.hid (fun w => refMul_any b1 a2 w hb.1 ha.2)
  have M3 := Lib.hid (fun w => refMul_any a2 b2 w ha.2 hb.2)
  generalize iMul a1 b2 = r1 at *
  generalize iMul b1 a2 = r2 at *
  generalize iMul a2 b2 = r3 at *
  obtain ⟨x1, e1⟩ := r1
  obtain ⟨x2, e2⟩ := r2
  obtain ⟨x3, e3⟩ := r3
  simp only at t1 t2 t3
  clear hva hvb ha hb
  have q0 : Blk ((w.alloc (.cells #[.string a1, .string a2] 23)).alloc (.cells #[.string b1, .string b2] 23)) (w.heap.size) #[.string a1, .string a2] 23 := (Blk.new w _ _).alloc _
  have q1 : Blk ((w.alloc (.cells #[.string a1, .string a2] 23)).alloc (.cells #[.string b1, .string b2] 23)) (w.heap.size + 1) #[.string b1, .string b2] 23 := Blk.newAt _ _ _ (by simp)
  have qL : Below w.heap.size w ((w.alloc (.cells #[.string a1, .string a2] 23)).alloc (.cells #[.string b1, .string b2] 23)) := ((Below.refl _ w).alloc (Nat.le_refl _) _).alloc (by simp <;> omega) _
  have A0 := Lib.hid q0
  have B0 := Lib.hid q1
  have L0 := Lib.hid qL
  clear qL q0 q1
  go_enter Tryz.func63, Tryz.ntmps63
  go_wp2_with fail
  try simp only [Nat.add_assoc, Nat.reduceAdd]
  generalize ((w.alloc (.cells #[.string a1, .string a2] 23)).alloc (.cells #[.string b1, .string b2] 23)) = w0 at *
  obtain ⟨a00, a01, a0f, a0g, a0l⟩ := blk2 A0.out
  obtain ⟨b00, b01, b0f, b0g, b0l⟩ := blk2 B0.out
  refine (VA.out _).mono ?_
  rintro e w1 ⟨rfl, hb1⟩
  have A1 := Lib.hid (Blk.below A0.out hb1 A0.out.lt)
  have B1 := Lib.hid (Blk.below B0.out hb1 B0.out.lt)
  have L1 := Lib.hid (L0.out.trans (hb1.mono L0.out.size))
  clear hb1
  obtain ⟨a10, a11, a1f, a1g, a1l⟩ := blk2 A1.out
  obtain ⟨b10, b11, b1f, b1g, b1l⟩ := blk2 B1.out
  go_wp2_with fail
  refine (VB.out _).mono ?_
  rintro e w2 ⟨rfl, hb2⟩
  have A2 := Lib.hid (Blk.below A1.out hb2 A1.out.lt)
  have B2 := Lib.hid (Blk.below B1.out hb2 B1.out.lt)
  have L2 := Lib.hid (L1.out.trans (hb2.mono L1.out.size))
  clear hb2
  obtain ⟨a20, a21, a2f, a2g, a2l⟩ := blk2 A2.out
  obtain ⟨b20, b21, b2f, b2g, b2l⟩ := blk2 B2.out
  go_wp2_with fail
  refine (M1.out _).mono ?_
  rintro e w3 ⟨rfl, hb3⟩
  have A3 := Lib.hid (Blk.below A2.out hb3 A2.out.lt)
  have B3 := Lib.hid (Blk.below B2.out hb3 B2.out.lt)
  have L3 := Lib.hid (L2.out.trans (hb3.mono L2.out.size))
  clear hb3
  obtain ⟨a30, a31, a3f, a3g, a3l⟩ := blk2 A3.out
  obtain ⟨b30, b31, b3f, b3g, b3l⟩ := blk2 B3.out
  go_wp2_with fail
  refine (M2.out _).mono ?_
  rintro e w4 ⟨rfl, hb4⟩
  have A4 := Lib.hid (Blk.below A3.out hb4 A3.out.lt)
  have B4 := Lib.hid (Blk.below B3.out hb4 B3.out.lt)
  have L4 := Lib.hid (L3.out.trans (hb4.mono L3.out.size))
  clear hb4
  obtain ⟨a40, a41, a4f, a4g, a4l⟩ := blk2 A4.out
  obtain ⟨b40, b41, b4f, b4g, b4l⟩ := blk2 B4.out
  go_wp2_with fail
  refine (M3.out _).mono ?_
  rintro e w5 ⟨rfl, hb5⟩
  have A5 := Lib.hid (Blk.below A4.out hb5 A4.out.lt)
  have B5 := Lib.hid (Blk.below B4.out hb5 B4.out.lt)
  have L5 := Lib.hid (L4.out.trans (hb5.mono L4.out.size))
  clear hb5
  obtain ⟨a50, a51, a5f, a5g, a5l⟩ := blk2 A5.out
  obtain ⟨b50, b51, b5f, b5g, b5l⟩ := blk2 B5.out
  go_wp2
  refine bodyPost_ret (v := .tuple #[.string x1, .string x2, .string x3, .bool false]) (by simp [results, Tryz.results63, go_sem]) rfl ⟨rfl, L5.out⟩
set_option maxRecDepth 100000 in
set_option maxHeartbeats 1000000 in
theorem cross_ttt (a1 a2 b1 b2 : ByteArray) (hva : rV (a1, a2) = true) (hvb : rV (b1, b2) = true) (t1 : ((iMul a1 b2).2 == 0) = true) (t2 : ((iMul b1 a2).2 == 0) = true) (t3 : ((iMul a2 b2).2 == 0) = true) (w : World) (ha : Sz (a1, a2)) (hb : Sz (b1, b2)) :
    Calls Tryz.prog 63 #[.agg #[.string a1, .string a2], .agg #[.string b1, .string b2]] w fun e w' => e = .returned (.tuple #[.string (iMul a1 b2).1, .string (iMul b1 a2).1, .string (iMul a2 b2).1, .bool true]) ∧ Below w.heap.size w w' := by
  have VA := Lib.hid (fun w => ref4Valid_is hva w ha)
  have VB := Lib.hid (fun w => ref4Valid_is hvb w hb)
  have M1 := Lib.hid (fun w => refMul_any a1 b2 w ha.1 hb.2)
  have M2 := Lib.hid (fun w => refMul_any b1 a2 w hb.1 ha.2)
  have M3 := Lib.hid (fun w => refMul_any a2 b2 w ha.2 hb.2)
  generalize iMul a1 b2 = r1 at *
  generalize iMul b1 a2 = r2 at *
  generalize iMul a2 b2 = r3 at *
  obtain ⟨x1, e1⟩ := r1
  obtain ⟨x2, e2⟩ := r2
  obtain ⟨x3, e3⟩ := r3
  simp only at t1 t2 t3
  clear hva hvb ha hb
  have q0 : Blk ((w.alloc (.cells #[.string a1, .string a2] 23)).alloc (.cells #[.string b1, .string b2] 23)) (w.heap.size) #[.string a1, .string a2] 23 := (Blk.new w _ _).alloc _
  have q1 : Blk ((w.alloc (.cells #[.string a1, .string a2] 23)).alloc (.cells #[.string b1, .string b2] 23)) (w.heap.size + 1) #[.string b1, .string b2] 23 := Blk.newAt _ _ _ (by simp)
  have qL : Below w.heap.size w ((w.alloc (.cells #[.string a1, .string a2] 23)).alloc (.cells #[.string b1, .string b2] 23)) := ((Below.refl _ w).alloc (Nat.le_refl _) _).alloc (by simp <;> omega) _
  have A0 := Lib.hid q0
  have B0 := Lib.hid q1
  have L0 := Lib.hid qL
  clear qL q0 q1
  go_enter Tryz.func63, Tryz.ntmps63
  go_wp2_with fail
  try simp only [Nat.add_assoc, Nat.reduceAdd]
  generalize ((w.alloc (.cells #[.string a1, .string a2] 23)).alloc (.cells #[.string b1, .string b2] 23)) = w0 at *
  obtain ⟨a00, a01, a0f, a0g, a0l⟩ := blk2 A0.out
  obtain ⟨b00, b01, b0f, b0g, b0l⟩ := blk2 B0.out
  refine (VA.out _).mono ?_
  rintro e w1 ⟨rfl, hb1⟩
  have A1 := Lib.hid (Blk.below A0.out hb1 A0.out.lt)
  have B1 := Lib.hid (Blk.below B0.out hb1 B0.out.lt)
  have L1 := Lib.hid (L0.out.trans (hb1.mono L0.out.size))
  clear hb1
  obtain ⟨a10, a11, a1f, a1g, a1l⟩ := blk2 A1.out
  obtain ⟨b10, b11, b1f, b1g, b1l⟩ := blk2 B1.out
  go_wp2_with fail
  refine (VB.out _).mono ?_
  rintro e w2 ⟨rfl, hb2⟩
  have A2 := Lib.hid (Blk.below A1.out hb2 A1.out.lt)
  have B2 := Lib.hid (Blk.below B1.out hb2 B1.out.lt)
  have L2 := Lib.hid (L1.out.trans (hb2.mono L1.out.size))
  clear hb2
  obtain ⟨a20, a21, a2f, a2g, a2l⟩ := blk2 A2.out
  obtain ⟨b20, b21, b2f, b2g, b2l⟩ := blk2 B2.out
  go_wp2_with fail
  refine (M1.out _).mono ?_
  rintro e w3 ⟨rfl, hb3⟩
  have A3 := Lib.hid (Blk.below A2.out hb3 A2.out.lt)
  have B3 := Lib.hid (Blk.below B2.out hb3 B2.out.lt)
  have L3 := Lib.hid (L2.out.trans (hb3.mono L2.out.size))
  clear hb3
  obtain ⟨a30, a31, a3f, a3g, a3l⟩ := blk2 A3.out
  obtain ⟨b30, b31, b3f, b3g, b3l⟩ := blk2 B3.out
  go_wp2_with fail
  refine (M2.out _).mono ?_
  rintro e w4 ⟨rfl, hb4⟩
  have A4 := Lib.hid (Blk.below A3.out hb4 A3.out.lt)
  have B4 := Lib.hid (Blk.below B3.out hb4 B3.out.lt)
  have L4 := Lib.hid (L3.out.trans (hb4.mono L3.out.size))
  clear hb4
  obtain ⟨a40, a41, a4f, a4g, a4l⟩ := blk2 A4.out
  obtain ⟨b40, b41, b4f, b4g, b4l⟩ := blk2 B4.out
  go_wp2_with fail
  refine (M3.out _).mono ?_
  rintro e w5 ⟨rfl, hb5⟩
  have A5 := Lib.hid (Blk.below A4.out hb5 A4.out.lt)
  have B5 := Lib.hid (Blk.below B4.out hb5 B4.out.lt)
  have L5 := Lib.hid (L4.out.trans (hb5.mono L4.out.size))
  clear hb5
  obtain ⟨a50, a51, a5f, a5g, a5l⟩ := blk2 A5.out
  obtain ⟨b50, b51, b5f, b5g, b5l⟩ := blk2 B5.out
  go_wp2
  refine bodyPost_ret (v := .tuple #[.string x1, .string x2, .string x3, .bool true]) (by simp [results, Tryz.results63, go_sem]) rfl ⟨rfl, L5.out⟩
/-- What 'cross' gives. -/
def CrossNo (w : World) (e : Ending) (w' : World) : Prop := ∃ x y d, e = .returned (.tuple #[.string x, .string y, .string d, .bool false]) ∧ Below w.heap.size w w'
theorem cross_no (a b : RS) (w : World) (ha : Sz a) (hb : Sz b) (h : (rV a && rV b && small (nS a.1 * nS b.2) && small (nS b.1 * nS a.2) && small (nS a.2 * nS b.2)) = false) :
    Calls Tryz.prog 63 #[.agg #[.string a.1, .string a.2], .agg #[.string b.1, .string b.2]] w (CrossNo w) := by
  obtain ⟨a1, a2⟩ := a
  obtain ⟨b1, b2⟩ := b
  simp only at h ⊢
  cases hva : rV (a1, a2) with
  | false => exact (cross_no1 a1 a2 b1 b2 hva _ rfl w ha hb).mono fun e w' h => ⟨_, _, _, h⟩
  | true =>
    cases hvb : rV (b1, b2) with
    | false => exact (cross_no2 a1 a2 b1 b2 hva hvb w ha hb).mono fun e w' h => ⟨_, _, _, h⟩
    | true =>
      obtain ⟨p1, p2, _, _⟩ := rV_parts hva
      obtain ⟨p3, p4, _, _⟩ := rV_parts hvb
      have t1 := iMul_err p1 p4
      have t2 := iMul_err p3 p2
      have t3 := iMul_err p2 p4
      simp only at t1 t2 t3
      rw [hva, hvb] at h
      cases h1 : small (nS a1 * nS b2) with
      | false => exact (cross_f a1 a2 b1 b2 hva hvb (t1.trans h1) w ha hb).mono fun e w' h => ⟨_, _, _, h⟩
      | true =>
        cases h2 : small (nS b1 * nS a2) with
        | false => exact (cross_tf a1 a2 b1 b2 hva hvb (t1.trans h1) (t2.trans h2) w ha hb).mono fun e w' h => ⟨_, _, _, h⟩
        | true =>
          rw [h1, h2] at h
          exact (cross_ttf a1 a2 b1 b2 hva hvb (t1.trans h1) (t2.trans h2) (t3.trans (by simpa using h)) w ha hb).mono fun e w' h => ⟨_, _, _, h⟩
theorem cross_yes (a b : RS) (w : World) (ha : Sz a) (hb : Sz b) (hva : rV a = true) (hvb : rV b = true) (h1 : small (nS a.1 * nS b.2) = true) (h2 : small (nS b.1 * nS a.2) = true) (h3 : small (nS a.2 * nS b.2) = true) :
    Calls Tryz.prog 63 #[.agg #[.string a.1, .string a.2], .agg #[.string b.1, .string b.2]] w fun e w' => e = .returned (.tuple #[.string (ofI (nS a.1 * nS b.2)), .string (ofI (nS b.1 * nS a.2)), .string (ofI (nS a.2 * nS b.2)), .bool true]) ∧ Below w.heap.size w w' := by
  obtain ⟨a1, a2⟩ := a
  obtain ⟨b1, b2⟩ := b
  obtain ⟨p1, p2, _, _⟩ := rV_parts hva
  obtain ⟨p3, p4, _, _⟩ := rV_parts hvb
  have := cross_ttt a1 a2 b1 b2 hva hvb ((iMul_err p1 p4).trans h1) ((iMul_err p3 p2).trans h2) ((iMul_err p2 p4).trans h3) w ha hb
  rwa [iMul_val p1 p4 h1, iMul_val p3 p2 h2, iMul_val p2 p4 h3] at this
set_option maxRecDepth 100000 in
set_option maxHeartbeats 1000000 in
theorem ref4Add_no (a1 a2 b1 b2 : ByteArray) (h : (rV (a1, a2) && rV (b1, b2) && small (nS a1 * nS b2) && small (nS b1 * nS a2) && small (nS a2 * nS b2)) = false) (w : World) (ha : Sz (a1, a2)) (hb : Sz (b1, b2)) :
    Calls Tryz.prog 30 #[.agg #[.string a1, .string a2], .agg #[.string b1, .string b2]] w (RatPost (noR, 40) w) := by
  have C := Lib.hid (fun w => cross_no (a1, a2) (b1, b2) w ha hb h)
  simp only at C
  clear ha hb h
  have q0 : Blk (((w.alloc (.cells #[.string a1, .string a2] 23)).alloc (.cells #[.string b1, .string b2] 23)).alloc (.cells #[.string ⟨#[]⟩, .string ⟨#[]⟩] 23)) (w.heap.size) #[.string a1, .string a2] 23 := ((Blk.new w _ _).alloc _).alloc _
  have q1 : Blk (((w.alloc (.cells #[.string a1, .string a2] 23)).alloc (.cells #[.string b1, .string b2] 23)).alloc (.cells #[.string ⟨#[]⟩, .string ⟨#[]⟩] 23)) (w.heap.size + 1) #[.string b1, .string b2] 23 := (Blk.newAt _ _ _ (by simp)).alloc _
  have q2 : Blk (((w.alloc (.cells #[.string a1, .string a2] 23)).alloc (.cells #[.string b1, .string b2] 23)).alloc (.cells #[.string ⟨#[]⟩, .string ⟨#[]⟩] 23)) (w.heap.size + 2) #[.string ⟨#[]⟩, .string ⟨#[]⟩] 23 := Blk.newAt _ _ _ (by simp)
  have qL : Below w.heap.size w (((w.alloc (.cells #[.string a1, .string a2] 23)).alloc (.cells #[.string b1, .string b2] 23)).alloc (.cells #[.string ⟨#[]⟩, .string ⟨#[]⟩] 23)) := (((Below.refl _ w).alloc (Nat.le_refl _) _).alloc (by simp <;> omega) _).alloc (by simp <;> omega) _
  have A0 := Lib.hid q0
  have B0 := Lib.hid q1
  have R0 := Lib.hid q2
  have L0 := Lib.hid qL
  clear qL q0 q1 q2
  go_enter Tryz.func30, Tryz.ntmps30
  go_wp2_with fail
  try simp only [Nat.add_assoc, Nat.reduceAdd]
  generalize (((w.alloc (.cells #[.string a1, .string a2] 23)).alloc (.cells #[.string b1, .string b2] 23)).alloc (.cells #[.string ⟨#[]⟩, .string ⟨#[]⟩] 23)) = w0 at *
  obtain ⟨a00, a01, a0f, a0g, a0l⟩ := blk2 A0.out
  obtain ⟨b00, b01, b0f, b0g, b0l⟩ := blk2 B0.out
  obtain ⟨r00, r01, r0f, r0g, r0l⟩ := blk2 R0.out
  refine (C.out _).mono ?_
  rintro e w1 ⟨x, y, d, rfl, hb1⟩
  have A1 := Lib.hid (Blk.below A0.out hb1 A0.out.lt)
  have B1 := Lib.hid (Blk.below B0.out hb1 B0.out.lt)
  have R1 := Lib.hid (Blk.below R0.out hb1 R0.out.lt)
  have L1 := Lib.hid (L0.out.trans (hb1.mono L0.out.size))
  clear hb1
  obtain ⟨a10, a11, a1f, a1g, a1l⟩ := blk2 A1.out
  obtain ⟨b10, b11, b1f, b1g, b1l⟩ := blk2 B1.out
  obtain ⟨r10, r11, r1f, r1g, r1l⟩ := blk2 R1.out
  go_wp2
  refine bodyPost_ret (v := vRE (noR, 40)) (by simp [results, Tryz.results30, go_sem, noR, r10, r11, r1f, r1g, r1l]; rfl) rfl ⟨rfl, ?_⟩
  exact (L1.out.setCell (by simp) _).setCell (by simp) _
set_option maxRecDepth 100000 in
set_option maxHeartbeats 1000000 in
theorem ref4Add_big (a1 a2 b1 b2 : ByteArray) (hva : rV (a1, a2) = true) (hvb : rV (b1, b2) = true) (h1 : small (nS a1 * nS b2) = true) (h2 : small (nS b1 * nS a2) = true) (h3 : small (nS a2 * nS b2) = true) (h4 : small (nS a1 * nS b2 + nS b1 * nS a2) = false) (w : World) (ha : Sz (a1, a2)) (hb : Sz (b1, b2)) :
    Calls Tryz.prog 30 #[.agg #[.string a1, .string a2], .agg #[.string b1, .string b2]] w (RatPost (noR, 40) w) := by
  have C := Lib.hid (fun w => cross_yes (a1, a2) (b1, b2) w ha hb hva hvb h1 h2 h3)
  have v1 := vS_small h1
  have v2 := vS_small h2
  have v3 := vS_small h3
  have M := Lib.hid (fun w => refAdd_any (ofI (nS a1 * nS b2)) (ofI (nS b1 * nS a2)) w (size_vS v1) (size_vS v2))
  rw [iAdd_chk v1 v2, nS_ofI, nS_ofI] at M
  rw [chkI_none h4] at M
  simp only at C
  generalize ofI (nS a1 * nS b2) = x at *
  generalize ofI (nS b1 * nS a2) = y at *
  generalize ofI (nS a2 * nS b2) = d at *
  clear ha hb hva hvb h1 h2 h3 h4 v1 v2 v3
  have q0 : Blk (((w.alloc (.cells #[.string a1, .string a2] 23)).alloc (.cells #[.string b1, .string b2] 23)).alloc (.cells #[.string ⟨#[]⟩, .string ⟨#[]⟩] 23)) (w.heap.size) #[.string a1, .string a2] 23 := ((Blk.new w _ _).alloc _).alloc _
  have q1 : Blk (((w.alloc (.cells #[.string a1, .string a2] 23)).alloc (.cells #[.string b1, .string b2] 23)).alloc (.cells #[.string ⟨#[]⟩, .string ⟨#[]⟩] 23)) (w.heap.size + 1) #[.string b1, .string b2] 23 := (Blk.newAt _ _ _ (by simp)).alloc _
  have q2 : Blk (((w.alloc (.cells #[.string a1, .string a2] 23)).alloc (.cells #[.string b1, .string b2] 23)).alloc (.cells #[.string ⟨#[]⟩, .string ⟨#[]⟩] 23)) (w.heap.size + 2) #[.string ⟨#[]⟩, .string ⟨#[]⟩] 23 := Blk.newAt _ _ _ (by simp)
  have qL : Below w.heap.size w (((w.alloc (.cells #[.string a1, .string a2] 23)).alloc (.cells #[.string b1, .string b2] 23)).alloc (.cells #[.string ⟨#[]⟩, .string ⟨#[]⟩] 23)) := (((Below.refl _ w).alloc (Nat.le_refl _) _).alloc (by simp <;> omega) _).alloc (by simp <;> omega) _
  have A0 := Lib.hid q0
  have B0 := Lib.hid q1
  have R0 := Lib.hid q2
  have L0 := Lib.hid qL
  clear qL q0 q1 q2
  go_enter Tryz.func30, Tryz.ntmps30
  go_wp2_with fail
  try simp only [Nat.add_assoc, Nat.reduceAdd]
  generalize (((w.alloc (.cells #[.string a1, .string a2] 23)).alloc (.cells #[.string b1, .string b2] 23)).alloc (.cells #[.string ⟨#[]⟩, .string ⟨#[]⟩] 23)) = w0 at *
  obtain ⟨a00, a01, a0f, a0g, a0l⟩ := blk2 A0.out
  obtain ⟨b00, b01, b0f, b0g, b0l⟩ := blk2 B0.out
  obtain ⟨r00, r01, r0f, r0g, r0l⟩ := blk2 R0.out
  refine (C.out _).mono ?_
  rintro e w1 ⟨rfl, hb1⟩
  have A1 := Lib.hid (Blk.below A0.out hb1 A0.out.lt)
  have B1 := Lib.hid (Blk.below B0.out hb1 B0.out.lt)
  have R1 := Lib.hid (Blk.below R0.out hb1 R0.out.lt)
  have L1 := Lib.hid (L0.out.trans (hb1.mono L0.out.size))
  clear hb1
  obtain ⟨a10, a11, a1f, a1g, a1l⟩ := blk2 A1.out
  obtain ⟨b10, b11, b1f, b1g, b1l⟩ := blk2 B1.out
  obtain ⟨r10, r11, r1f, r1g, r1l⟩ := blk2 R1.out
  go_wp2_with fail
  refine (M.out _).mono ?_
  rintro e w2 ⟨rfl, hb2⟩
  have A2 := Lib.hid (Blk.below A1.out hb2 A1.out.lt)
  have B2 := Lib.hid (Blk.below B1.out hb2 B1.out.lt)
  have R2 := Lib.hid (Blk.below R1.out hb2 R1.out.lt)
  have L2 := Lib.hid (L1.out.trans (hb2.mono L1.out.size))
  clear hb2
  obtain ⟨a20, a21, a2f, a2g, a2l⟩ := blk2 A2.out
  obtain ⟨b20, b21, b2f, b2g, b2l⟩ := blk2 B2.out
  obtain ⟨r20, r21, r2f, r2g, r2l⟩ := blk2 R2.out
  go_wp2
  refine bodyPost_ret (v := vRE (noR, 40)) (by simp [results, Tryz.results30, go_sem, noR, r20, r21, r2f, r2g, r2l]; rfl) rfl ⟨rfl, ?_⟩
  exact (L2.out.setCell (by simp) _).setCell (by simp) _
set_option maxRecDepth 100000 in
set_option maxHeartbeats 1000000 in
theorem ref4Add_yes (a1 a2 b1 b2 : ByteArray) (hva : rV (a1, a2) = true) (hvb : rV (b1, b2) = true) (h1 : small (nS a1 * nS b2) = true) (h2 : small (nS b1 * nS a2) = true) (h3 : small (nS a2 * nS b2) = true) (h4 : small (nS a1 * nS b2 + nS b1 * nS a2) = true) (w : World) (ha : Sz (a1, a2)) (hb : Sz (b1, b2)) :
    Calls Tryz.prog 30 #[.agg #[.string a1, .string a2], .agg #[.string b1, .string b2]] w (RatPost (rMk (nS a1 * nS b2 + nS b1 * nS a2) (nS a2 * nS b2)) w) := by
  have C := Lib.hid (fun w => cross_yes (a1, a2) (b1, b2) w ha hb hva hvb h1 h2 h3)
  have v1 := vS_small h1
  have v2 := vS_small h2
  have v3 := vS_small h3
  have M := Lib.hid (fun w => refAdd_any (ofI (nS a1 * nS b2)) (ofI (nS b1 * nS a2)) w (size_vS v1) (size_vS v2))
  rw [iAdd_chk v1 v2, nS_ofI, nS_ofI] at M
  rw [chkI_fits h4] at M
  have K := Lib.hid (fun w => ref4Make_any (ofI (nS a1 * nS b2 + nS b1 * nS a2)) (ofI (nS a2 * nS b2)) w (size_vS (vS_small h4)) (size_vS v3))
  rw [rMake_ofI] at K
  simp only at C
  generalize rMk (nS a1 * nS b2 + nS b1 * nS a2) (nS a2 * nS b2) = r at *
  generalize ofI (nS a1 * nS b2 + nS b1 * nS a2) = z at *
  generalize ofI (nS a1 * nS b2) = x at *
  generalize ofI (nS b1 * nS a2) = y at *
  generalize ofI (nS a2 * nS b2) = d at *
  clear ha hb hva hvb h1 h2 h3 h4 v1 v2 v3
  have q0 : Blk (((w.alloc (.cells #[.string a1, .string a2] 23)).alloc (.cells #[.string b1, .string b2] 23)).alloc (.cells #[.string ⟨#[]⟩, .string ⟨#[]⟩] 23)) (w.heap.size) #[.string a1, .string a2] 23 := ((Blk.new w _ _).alloc _).alloc _
  have q1 : Blk (((w.alloc (.cells #[.string a1, .string a2] 23)).alloc (.cells #[.string b1, .string b2] 23)).alloc (.cells #[.string ⟨#[]⟩, .string ⟨#[]⟩] 23)) (w.heap.size + 1) #[.string b1, .string b2] 23 := (Blk.newAt _ _ _ (by simp)).alloc _
  have q2 : Blk (((w.alloc (.cells #[.string a1, .string a2] 23)).alloc (.cells #[.string b1, .string b2] 23)).alloc (.cells #[.string ⟨#[]⟩, .string ⟨#[]⟩] 23)) (w.heap.size + 2) #[.string ⟨#[]⟩, .string ⟨#[]⟩] 23 := Blk.newAt _ _ _ (by simp)
  have qL : Below w.heap.size w (((w.alloc (.cells #[.string a1, .string a2] 23)).alloc (.cells #[.string b1, .string b2] 23)).alloc (.cells #[.string ⟨#[]⟩, .string ⟨#[]⟩] 23)) := (((Below.refl _ w).alloc (Nat.le_refl _) _).alloc (by simp <;> omega) _).alloc (by simp <;> omega) _
  have A0 := Lib.hid q0
  have B0 := Lib.hid q1
  have R0 := Lib.hid q2
  have L0 := Lib.hid qL
  clear qL q0 q1 q2
  go_enter Tryz.func30, Tryz.ntmps30
  go_wp2_with fail
  try simp only [Nat.add_assoc, Nat.reduceAdd]
  generalize (((w.alloc (.cells #[.string a1, .string a2] 23)).alloc (.cells #[.string b1, .string b2] 23)).alloc (.cells #[.string ⟨#[]⟩, .string ⟨#[]⟩] 23)) = w0 at *
  obtain ⟨a00, a01, a0f, a0g, a0l⟩ := blk2 A0.out
  obtain ⟨b00, b01, b0f, b0g, b0l⟩ := blk2 B0.out
  obtain ⟨r00, r01, r0f, r0g, r0l⟩ := blk2 R0.out
  refine (C.out _).mono ?_
  rintro e w1 ⟨rfl, hb1⟩
  have A1 := Lib.hid (Blk.below A0.out hb1 A0.out.lt)
  have B1 := Lib.hid (Blk.below B0.out hb1 B0.out.lt)
  have R1 := Lib.hid (Blk.below R0.out hb1 R0.out.lt)
  have L1 := Lib.hid (L0.out.trans (hb1.mono L0.out.size))
  clear hb1
  obtain ⟨a10, a11, a1f, a1g, a1l⟩ := blk2 A1.out
  obtain ⟨b10, b11, b1f, b1g, b1l⟩ := blk2 B1.out
  obtain ⟨r10, r11, r1f, r1g, r1l⟩ := blk2 R1.out
  go_wp2_with fail
  refine (M.out _).mono ?_
  rintro e w2 ⟨rfl, hb2⟩
  have A2 := Lib.hid (Blk.below A1.out hb2 A1.out.lt)
  have B2 := Lib.hid (Blk.below B1.out hb2 B1.out.lt)
  have R2 := Lib.hid (Blk.below R1.out hb2 R1.out.lt)
  have L2 := Lib.hid (L1.out.trans (hb2.mono L1.out.size))
  clear hb2
  obtain ⟨a20, a21, a2f, a2g, a2l⟩ := blk2 A2.out
  obtain ⟨b20, b21, b2f, b2g, b2l⟩ := blk2 B2.out
  obtain ⟨r20, r21, r2f, r2g, r2l⟩ := blk2 R2.out
  go_wp2_with fail
  refine (K.out _).mono ?_
  rintro e w3 ⟨rfl, hb3⟩
  have A3 := Lib.hid (Blk.below A2.out hb3 A2.out.lt)
  have B3 := Lib.hid (Blk.below B2.out hb3 B2.out.lt)
  have R3 := Lib.hid (Blk.below R2.out hb3 R2.out.lt)
  have L3 := Lib.hid (L2.out.trans (hb3.mono L2.out.size))
  clear hb3
  obtain ⟨a30, a31, a3f, a3g, a3l⟩ := blk2 A3.out
  obtain ⟨b30, b31, b3f, b3g, b3l⟩ := blk2 B3.out
  obtain ⟨r30, r31, r3f, r3g, r3l⟩ := blk2 R3.out
  obtain ⟨⟨q1, q2⟩, q3⟩ := r
  go_wp2
  refine bodyPost_ret (v := vRE ((q1, q2), q3)) (by simp [results, Tryz.results30, go_sem, r30, r31, r3f, r3g, r3l]) rfl ⟨rfl, ?_⟩
  exact (L3.out.setCell (by simp) _).setCell (by simp) _
theorem ref4Add_any (a b : RS) (w : World) (ha : Sz a) (hb : Sz b) : Calls Tryz.prog 30 #[vR a, vR b] w (RatPost (rAdd a b) w) := by
  obtain ⟨a1, a2⟩ := a
  obtain ⟨b1, b2⟩ := b
  show Calls _ _ #[.agg #[.string a1, .string a2], .agg #[.string b1, .string b2]] _ _
  unfold rAdd
  cases hall : (rV (a1, a2) && rV (b1, b2) && small (nS a1 * nS b2) && small (nS b1 * nS a2) && small (nS a2 * nS b2)) with
  | false =>
    have e : (if rV (a1, a2) && rV (b1, b2) && small (nS a1 * nS b2) && small (nS b1 * nS a2) then rMk (nS a1 * nS b2 + nS b1 * nS a2) (nS a2 * nS b2) else (noR, 40)) = (noR, 40) := by
      split
      · rename_i h; rw [h] at hall; rw [rMk_no (by intro h2; rw [h2.2.1] at hall; cases hall)]
      · rfl
    rw [e]; exact ref4Add_no a1 a2 b1 b2 hall w ha hb
  | true =>
    have h := hall
    simp only [Bool.and_eq_true] at h
    rw [if_pos (by simp [h])]
    cases h4 : small (nS a1 * nS b2 + nS b1 * nS a2) with
    | false => rw [rMk_no (by simp [h4])]; exact ref4Add_big a1 a2 b1 b2 h.1.1.1.1 h.1.1.1.2 h.1.1.2 h.1.2 h.2 h4 w ha hb
    | true => exact ref4Add_yes a1 a2 b1 b2 h.1.1.1.1 h.1.1.1.2 h.1.1.2 h.1.2 h.2 h4 w ha hb
set_option maxRecDepth 100000 in
set_option maxHeartbeats 1000000 in
theorem ref4Sub_no (a1 a2 b1 b2 : ByteArray) (h : (rV (a1, a2) && rV (b1, b2) && small (nS a1 * nS b2) && small (nS b1 * nS a2) && small (nS a2 * nS b2)) = false) (w : World) (ha : Sz (a1, a2)) (hb : Sz (b1, b2)) :
    Calls Tryz.prog 31 #[.agg #[.string a1, .string a2], .agg #[.string b1, .string b2]] w (RatPost (noR, 40) w) := by
  have C := Lib.hid (fun w => cross_no (a1, a2) (b1, b2) w ha hb h)
  simp only at C
  clear ha hb h
  have q0 : Blk (((w.alloc (.cells #[.string a1, .string a2] 23)).alloc (.cells #[.string b1, .string b2] 23)).alloc (.cells #[.string ⟨#[]⟩, .string ⟨#[]⟩] 23)) (w.heap.size) #[.string a1, .string a2] 23 := ((Blk.new w _ _).alloc _).alloc _
  have q1 : Blk (((w.alloc (.cells #[.string a1, .string a2] 23)).alloc (.cells #[.string b1, .string b2] 23)).alloc (.cells #[.string ⟨#[]⟩, .string ⟨#[]⟩] 23)) (w.heap.size + 1) #[.string b1, .string b2] 23 := (Blk.newAt _ _ _ (by simp)).alloc _
  have q2 : Blk (((w.alloc (.cells #[.string a1, .string a2] 23)).alloc (.cells #[.string b1, .string b2] 23)).alloc (.cells #[.string ⟨#[]⟩, .string ⟨#[]⟩] 23)) (w.heap.size + 2) #[.string ⟨#[]⟩, .string ⟨#[]⟩] 23 := Blk.newAt _ _ _ (by simp)
  have qL : Below w.heap.size w (((w.alloc (.cells #[.string a1, .string a2] 23)).alloc (.cells #[.string b1, .string b2] 23)).alloc (.cells #[.string ⟨#[]⟩, .string ⟨#[]⟩] 23)) := (((Below.refl _ w).alloc (Nat.le_refl _) _).alloc (by simp <;> omega) _).alloc (by simp <;> omega) _
  have A0 := Lib.hid q0
  have B0 := Lib.hid q1
  have R0 := Lib.hid q2
  have L0 := Lib.hid qL
  clear qL q0 q1 q2
  go_enter Tryz.func31, Tryz.ntmps31
  go_wp2_with fail
  try simp only [Nat.add_assoc, Nat.reduceAdd]
  generalize (((w.alloc (.cells #[.string a1, .string a2] 23)).alloc (.cells #[.string b1, .string b2] 23)).alloc (.cells #[.string ⟨#[]⟩, .string ⟨#[]⟩] 23)) = w0 at *
  obtain ⟨a00, a01, a0f, a0g, a0l⟩ := blk2 A0.out
  obtain ⟨b00, b01, b0f, b0g, b0l⟩ := blk2 B0.out
  obtain ⟨r00, r01, r0f, r0g, r0l⟩ := blk2 R0.out
  refine (C.out _).mono ?_
  rintro e w1 ⟨x, y, d, rfl, hb1⟩
  have A1 := Lib.hid (Blk.below A0.out hb1 A0.out.lt)
  have B1 := Lib.hid (Blk.below B0.out hb1 B0.out.lt)
  have R1 := Lib.hid (Blk.below R0.out hb1 R0.out.lt)
  have L1 := Lib.hid (L0.out.trans (hb1.mono L0.out.size))
  clear hb1
  obtain ⟨a10, a11, a1f, a1g, a1l⟩ := blk2 A1.out
  obtain ⟨b10, b11, b1f, b1g, b1l⟩ := blk2 B1.out
  obtain ⟨r10, r11, r1f, r1g, r1l⟩ := blk2 R1.out
  go_wp2
  refine bodyPost_ret (v := vRE (noR, 40)) (by simp [results, Tryz.results31, go_sem, noR, r10, r11, r1f, r1g, r1l]; rfl) rfl ⟨rfl, ?_⟩
  exact (L1.out.setCell (by simp) _).setCell (by simp) _
set_option maxRecDepth 100000 in
set_option maxHeartbeats 1000000 in
theorem ref4Sub_big (a1 a2 b1 b2 : ByteArray) (hva : rV (a1, a2) = true) (hvb : rV (b1, b2) = true) (h1 : small (nS a1 * nS b2) = true) (h2 : small (nS b1 * nS a2) = true) (h3 : small (nS a2 * nS b2) = true) (h4 : small (nS a1 * nS b2 - nS b1 * nS a2) = false) (w : World) (ha : Sz (a1, a2)) (hb : Sz (b1, b2)) :
    Calls Tryz.prog 31 #[.agg #[.string a1, .string a2], .agg #[.string b1, .string b2]] w (RatPost (noR, 40) w) := by
  have C := Lib.hid (fun w => cross_yes (a1, a2) (b1, b2) w ha hb hva hvb h1 h2 h3)
  have v1 := vS_small h1
  have v2 := vS_small h2
  have v3 := vS_small h3
  have M := Lib.hid (fun w => refSub_any (ofI (nS a1 * nS b2)) (ofI (nS b1 * nS a2)) w (size_vS v1) (size_vS v2))
  rw [iSub_chk v1 v2, nS_ofI, nS_ofI] at M
  rw [chkI_none h4] at M
  simp only at C
  generalize ofI (nS a1 * nS b2) = x at *
  generalize ofI (nS b1 * nS a2) = y at *
  generalize ofI (nS a2 * nS b2) = d at *
  clear ha hb hva hvb h1 h2 h3 h4 v1 v2 v3
  have q0 : Blk (((w.alloc (.cells #[.string a1, .string a2] 23)).alloc (.cells #[.string b1, .string b2] 23)).alloc (.cells #[.string ⟨#[]⟩, .string ⟨#[]⟩] 23)) (w.heap.size) #[.string a1, .string a2] 23 := ((Blk.new w _ _).alloc _).alloc _
  have q1 : Blk (((w.alloc (.cells #[.string a1, .string a2] 23)).alloc (.cells #[.string b1, .string b2] 23)).alloc (.cells #[.string ⟨#[]⟩, .string ⟨#[]⟩] 23)) (w.heap.size + 1) #[.string b1, .string b2] 23 := (Blk.newAt _ _ _ (by simp)).alloc _
  have q2 : Blk (((w.alloc (.cells #[.string a1, .string a2] 23)).alloc (.cells #[.string b1, .string b2] 23)).alloc (.cells #[.string ⟨#[]⟩, .string ⟨#[]⟩] 23)) (w.heap.size + 2) #[.string ⟨#[]⟩, .string ⟨#[]⟩] 23 := Blk.newAt _ _ _ (by simp)
  have qL : Below w.heap.size w (((w.alloc (.cells #[.string a1, .string a2] 23)).alloc (.cells #[.string b1, .string b2] 23)).alloc (.cells #[.string ⟨#[]⟩, .string ⟨#[]⟩] 23)) := (((Below.refl _ w).alloc (Nat.le_refl _) _).alloc (by simp <;> omega) _).alloc (by simp <;> omega) _
  have A0 := Lib.hid q0
  have B0 := Lib.hid q1
  have R0 := Lib.hid q2
  have L0 := Lib.hid qL
  clear qL q0 q1 q2
  go_enter Tryz.func31, Tryz.ntmps31
  go_wp2_with fail
  try simp only [Nat.add_assoc, Nat.reduceAdd]
  generalize (((w.alloc (.cells #[.string a1, .string a2] 23)).alloc (.cells #[.string b1, .string b2] 23)).alloc (.cells #[.string ⟨#[]⟩, .string ⟨#[]⟩] 23)) = w0 at *
  obtain ⟨a00, a01, a0f, a0g, a0l⟩ := blk2 A0.out
  obtain ⟨b00, b01, b0f, b0g, b0l⟩ := blk2 B0.out
  obtain ⟨r00, r01, r0f, r0g, r0l⟩ := blk2 R0.out
  refine (C.out _).mono ?_
  rintro e w1 ⟨rfl, hb1⟩
  have A1 := Lib.hid (Blk.below A0.out hb1 A0.out.lt)
  have B1 := Lib.hid (Blk.below B0.out hb1 B0.out.lt)
  have R1 := Lib.hid (Blk.below R0.out hb1 R0.out.lt)
  have L1 := Lib.hid (L0.out.trans (hb1.mono L0.out.size))
  clear hb1
  obtain ⟨a10, a11, a1f, a1g, a1l⟩ := blk2 A1.out
  obtain ⟨b10, b11, b1f, b1g, b1l⟩ := blk2 B1.out
  obtain ⟨r10, r11, r1f, r1g, r1l⟩ := blk2 R1.out
  go_wp2_with fail
  refine (M.out _).mono ?_
  rintro e w2 ⟨rfl, hb2⟩
  have A2 := Lib.hid (Blk.below A1.out hb2 A1.out.lt)
  have B2 := Lib.hid (Blk.below B1.out hb2 B1.out.lt)
  have R2 := Lib.hid (Blk.below R1.out hb2 R1.out.lt)
  have L2 := Lib.hid (L1.out.trans (hb2.mono L1.out.size))
  clear hb2
  obtain ⟨a20, a21, a2f, a2g, a2l⟩ := blk2 A2.out
  obtain ⟨b20, b21, b2f, b2g, b2l⟩ := blk2 B2.out
  obtain ⟨r20, r21, r2f, r2g, r2l⟩ := blk2 R2.out
  go_wp2
  refine bodyPost_ret (v := vRE (noR, 40)) (by simp [results, Tryz.results31, go_sem, noR, r20, r21, r2f, r2g, r2l]; rfl) rfl ⟨rfl, ?_⟩
  exact (L2.out.setCell (by simp) _).setCell (by simp) _
set_option maxRecDepth 100000 in
set_option maxHeartbeats 1000000 in
theorem ref4Sub_yes (a1 a2 b1 b2 : ByteArray) (hva : rV (a1, a2) = true) (hvb : rV (b1, b2) = true) (h1 : small (nS a1 * nS b2) = true) (h2 : small (nS b1 * nS a2) = true) (h3 : small (nS a2 * nS b2) = true) (h4 : small (nS a1 * nS b2 - nS b1 * nS a2) = true) (w : World) (ha : Sz (a1, a2)) (hb : Sz (b1, b2)) :
    Calls Tryz.prog 31 #[.agg #[.string a1, .string a2], .agg #[.string b1, .string b2]] w (RatPost (rMk (nS a1 * nS b2 - nS b1 * nS a2) (nS a2 * nS b2)) w) := by
  have C := Lib.hid (fun w => cross_yes (a1, a2) (b1, b2) w ha hb hva hvb h1 h2 h3)
  have v1 := vS_small h1
  have v2 := vS_small h2
  have v3 := vS_small h3
  have M := Lib.hid (fun w => refSub_any (ofI (nS a1 * nS b2)) (ofI (nS b1 * nS a2)) w (size_vS v1) (size_vS v2))
  rw [iSub_chk v1 v2, nS_ofI, nS_ofI] at M
  rw [chkI_fits h4] at M
  have K := Lib.hid (fun w => ref4Make_any (ofI (nS a1 * nS b2 - nS b1 * nS a2)) (ofI (nS a2 * nS b2)) w (size_vS (vS_small h4)) (size_vS v3))
  rw [rMake_ofI] at K
  simp only at C
  generalize rMk (nS a1 * nS b2 - nS b1 * nS a2) (nS a2 * nS b2) = r at *
  generalize ofI (nS a1 * nS b2 - nS b1 * nS a2) = z at *
  generalize ofI (nS a1 * nS b2) = x at *
  generalize ofI (nS b1 * nS a2) = y at *
  generalize ofI (nS a2 * nS b2) = d at *
  clear ha hb hva hvb h1 h2 h3 h4 v1 v2 v3
  have q0 : Blk (((w.alloc (.cells #[.string a1, .string a2] 23)).alloc (.cells #[.string b1, .string b2] 23)).alloc (.cells #[.string ⟨#[]⟩, .string ⟨#[]⟩] 23)) (w.heap.size) #[.string a1, .string a2] 23 := ((Blk.new w _ _).alloc _).alloc _
  have q1 : Blk (((w.alloc (.cells #[.string a1, .string a2] 23)).alloc (.cells #[.string b1, .string b2] 23)).alloc (.cells #[.string ⟨#[]⟩, .string ⟨#[]⟩] 23)) (w.heap.size + 1) #[.string b1, .string b2] 23 := (Blk.newAt _ _ _ (by simp)).alloc _
  have q2 : Blk (((w.alloc (.cells #[.string a1, .string a2] 23)).alloc (.cells #[.string b1, .string b2] 23)).alloc (.cells #[.string ⟨#[]⟩, .string ⟨#[]⟩] 23)) (w.heap.size + 2) #[.string ⟨#[]⟩, .string ⟨#[]⟩] 23 := Blk.newAt _ _ _ (by simp)
  have qL : Below w.heap.size w (((w.alloc (.cells #[.string a1, .string a2] 23)).alloc (.cells #[.string b1, .string b2] 23)).alloc (.cells #[.string ⟨#[]⟩, .string ⟨#[]⟩] 23)) := (((Below.refl _ w).alloc (Nat.le_refl _) _).alloc (by simp <;> omega) _).alloc (by simp <;> omega) _
  have A0 := Lib.hid q0
  have B0 := Lib.hid q1
  have R0 := Lib.hid q2
  have L0 := Lib.hid qL
  clear qL q0 q1 q2
  go_enter Tryz.func31, Tryz.ntmps31
  go_wp2_with fail
  try simp only [Nat.add_assoc, Nat.reduceAdd]
  generalize (((w.alloc (.cells #[.string a1, .string a2] 23)).alloc (.cells #[.string b1, .string b2] 23)).alloc (.cells #[.string ⟨#[]⟩, .string ⟨#[]⟩] 23)) = w0 at *
  obtain ⟨a00, a01, a0f, a0g, a0l⟩ := blk2 A0.out
  obtain ⟨b00, b01, b0f, b0g, b0l⟩ := blk2 B0.out
  obtain ⟨r00, r01, r0f, r0g, r0l⟩ := blk2 R0.out
  refine (C.out _).mono ?_
  rintro e w1 ⟨rfl, hb1⟩
  have A1 := Lib.hid (Blk.below A0.out hb1 A0.out.lt)
  have B1 := Lib.hid (Blk.below B0.out hb1 B0.out.lt)
  have R1 := Lib.hid (Blk.below R0.out hb1 R0.out.lt)
  have L1 := Lib.hid (L0.out.trans (hb1.mono L0.out.size))
  clear hb1
  obtain ⟨a10, a11, a1f, a1g, a1l⟩ := blk2 A1.out
  obtain ⟨b10, b11, b1f, b1g, b1l⟩ := blk2 B1.out
  obtain ⟨r10, r11, r1f, r1g, r1l⟩ := blk2 R1.out
  go_wp2_with fail
  refine (M.out _).mono ?_
  rintro e w2 ⟨rfl, hb2⟩
  have A2 := Lib.hid (Blk.below A1.out hb2 A1.out.lt)
  have B2 := Lib.hid (Blk.below B1.out hb2 B1.out.lt)
  have R2 := Lib.hid (Blk.below R1.out hb2 R1.out.lt)
  have L2 := Lib.hid (L1.out.trans (hb2.mono L1.out.size))
  clear hb2
  obtain ⟨a20, a21, a2f, a2g, a2l⟩ := blk2 A2.out
  obtain ⟨b20, b21, b2f, b2g, b2l⟩ := blk2 B2.out
  obtain ⟨r20, r21, r2f, r2g, r2l⟩ := blk2 R2.out
  go_wp2_with fail
  refine (K.out _).mono ?_
  rintro e w3 ⟨rfl, hb3⟩
  have A3 := Lib.hid (Blk.below A2.out hb3 A2.out.lt)
  have B3 := Lib.hid (Blk.below B2.out hb3 B2.out.lt)
  have R3 := Lib.hid (Blk.below R2.out hb3 R2.out.lt)
  have L3 := Lib.hid (L2.out.trans (hb3.mono L2.out.size))
  clear hb3
  obtain ⟨a30, a31, a3f, a3g, a3l⟩ := blk2 A3.out
  obtain ⟨b30, b31, b3f, b3g, b3l⟩ := blk2 B3.out
  obtain ⟨r30, r31, r3f, r3g, r3l⟩ := blk2 R3.out
  obtain ⟨⟨q1, q2⟩, q3⟩ := r
  go_wp2
  refine bodyPost_ret (v := vRE ((q1, q2), q3)) (by simp [results, Tryz.results31, go_sem, r30, r31, r3f, r3g, r3l]) rfl ⟨rfl, ?_⟩
  exact (L3.out.setCell (by simp) _).setCell (by simp) _
theorem ref4Sub_any (a b : RS) (w : World) (ha : Sz a) (hb : Sz b) : Calls Tryz.prog 31 #[vR a, vR b] w (RatPost (rSub a b) w) := by
  obtain ⟨a1, a2⟩ := a
  obtain ⟨b1, b2⟩ := b
  show Calls _ _ #[.agg #[.string a1, .string a2], .agg #[.string b1, .string b2]] _ _
  unfold rSub
  cases hall : (rV (a1, a2) && rV (b1, b2) && small (nS a1 * nS b2) && small (nS b1 * nS a2) && small (nS a2 * nS b2)) with
  | false =>
    have e : (if rV (a1, a2) && rV (b1, b2) && small (nS a1 * nS b2) && small (nS b1 * nS a2) then rMk (nS a1 * nS b2 - nS b1 * nS a2) (nS a2 * nS b2) else (noR, 40)) = (noR, 40) := by
      split
      · rename_i h; rw [h] at hall; rw [rMk_no (by intro h2; rw [h2.2.1] at hall; cases hall)]
      · rfl
    rw [e]; exact ref4Sub_no a1 a2 b1 b2 hall w ha hb
  | true =>
    have h := hall
    simp only [Bool.and_eq_true] at h
    rw [if_pos (by simp [h])]
    cases h4 : small (nS a1 * nS b2 - nS b1 * nS a2) with
    | false => rw [rMk_no (by simp [h4])]; exact ref4Sub_big a1 a2 b1 b2 h.1.1.1.1 h.1.1.1.2 h.1.1.2 h.1.2 h.2 h4 w ha hb
    | true => exact ref4Sub_yes a1 a2 b1 b2 h.1.1.1.1 h.1.1.1.2 h.1.1.2 h.1.2 h.2 h4 w ha hb
set_option maxRecDepth 100000 in
set_option maxHeartbeats 1000000 in
theorem ref4Mul_no1 (a1 a2 b1 b2 : ByteArray) (hva : rV (a1, a2) = false) (v : Bool) (hvb : rV (b1, b2) = v) (w : World) (ha : Sz (a1, a2)) (hb : Sz (b1, b2)) :
    Calls Tryz.prog 32 #[.agg #[.string a1, .string a2], .agg #[.string b1, .string b2]] w (RatPost (noR, 40) w) := by
  have VA := Lib.hid (fun w => ref4Valid_is hva w ha)
  have VB := Lib.hid (fun w => ref4Valid_is hvb w hb)
  clear hva hvb ha hb
  have q0 : Blk (((w.alloc (.cells #[.string a1, .string a2] 23)).alloc (.cells #[.string b1, .string b2] 23)).alloc (.cells #[.string ⟨#[]⟩, .string ⟨#[]⟩] 23)) (w.heap.size) #[.string a1, .string a2] 23 := ((Blk.new w _ _).alloc _).alloc _
  have q1 : Blk (((w.alloc (.cells #[.string a1, .string a2] 23)).alloc (.cells #[.string b1, .string b2] 23)).alloc (.cells #[.string ⟨#[]⟩, .string ⟨#[]⟩] 23)) (w.heap.size + 1) #[.string b1, .string b2] 23 := (Blk.newAt _ _ _ (by simp)).alloc _
  have q2 : Blk (((w.alloc (.cells #[.string a1, .string a2] 23)).alloc (.cells #[.string b1, .string b2] 23)).alloc (.cells #[.string ⟨#[]⟩, .string ⟨#[]⟩] 23)) (w.heap.size + 2) #[.string ⟨#[]⟩, .string ⟨#[]⟩] 23 := Blk.newAt _ _ _ (by simp)
  have qL : Below w.heap.size w (((w.alloc (.cells #[.string a1, .string a2] 23)).alloc (.cells #[.string b1, .string b2] 23)).alloc (.cells #[.string ⟨#[]⟩, .string ⟨#[]⟩] 23)) := (((Below.refl _ w).alloc (Nat.le_refl _) _).alloc (by simp <;> omega) _).alloc (by simp <;> omega) _
  have A0 := Lib.hid q0
  have B0 := Lib.hid q1
  have R0 := Lib.hid q2
  have L0 := Lib.hid qL
  clear qL q0 q1 q2
  go_enter Tryz.func32, Tryz.ntmps32
  go_wp2_with fail
  try simp only [Nat.add_assoc, Nat.reduceAdd]
  generalize (((w.alloc (.cells #[.string a1, .string a2] 23)).alloc (.cells #[.string b1, .string b2] 23)).alloc (.cells #[.string ⟨#[]⟩, .string ⟨#[]⟩] 23)) = w0 at *
  obtain ⟨a00, a01, a0f, a0g, a0l⟩ := blk2 A0.out
  obtain ⟨b00, b01, b0f, b0g, b0l⟩ := blk2 B0.out
  obtain ⟨r00, r01, r0f, r0g, r0l⟩ := blk2 R0.out
  refine (VA.out _).mono ?_
  rintro e w1 ⟨rfl, hb1⟩
  have A1 := Lib.hid (Blk.below A0.out hb1 A0.out.lt)
  have B1 := Lib.hid (Blk.below B0.out hb1 B0.out.lt)
  have R1 := Lib.hid (Blk.below R0.out hb1 R0.out.lt)
  have L1 := Lib.hid (L0.out.trans (hb1.mono L0.out.size))
  clear hb1
  obtain ⟨a10, a11, a1f, a1g, a1l⟩ := blk2 A1.out
  obtain ⟨b10, b11, b1f, b1g, b1l⟩ := blk2 B1.out
  obtain ⟨r10, r11, r1f, r1g, r1l⟩ := blk2 R1.out
  go_wp2_with fail
  refine (VB.out _).mono ?_
  rintro e w2 ⟨rfl, hb2⟩
  have A2 := Lib.hid (Blk.below A1.out hb2 A1.out.lt)
  have B2 := Lib.hid (Blk.below B1.out hb2 B1.out.lt)
  have R2 := Lib.hid (Blk.below R1.out hb2 R1.out.lt)
  have L2 := Lib.hid (L1.out.trans (hb2.mono L1.out.size))
  clear hb2
  obtain ⟨a20, a21, a2f, a2g, a2l⟩ := blk2 A2.out
  obtain ⟨b20, b21, b2f, b2g, b2l⟩ := blk2 B2.out
  obtain ⟨r20, r21, r2f, r2g, r2l⟩ := blk2 R2.out
  cases v
  · skip
    go_wp2
    refine bodyPost_ret (v := vRE (noR, 40)) (by simp [results, Tryz.results32, go_sem, noR, r20, r21, r2f, r2g, r2l]; rfl) rfl ⟨rfl, ?_⟩
    exact (L2.out.setCell (by simp) _).setCell (by simp) _
  · skip
    go_wp2
    refine bodyPost_ret (v := vRE (noR, 40)) (by simp [results, Tryz.results32, go_sem, noR, r20, r21, r2f, r2g, r2l]; rfl) rfl ⟨rfl, ?_⟩
    exact (L2.out.setCell (by simp) _).setCell (by simp) _
set_option maxRecDepth 100000 in
set_option maxHeartbeats 1000000 in
theorem ref4Mul_no2 (a1 a2 b1 b2 : ByteArray) (hva : rV (a1, a2) = true) (hvb : rV (b1, b2) = false) (w : World) (ha : Sz (a1, a2)) (hb : Sz (b1, b2)) :
    Calls Tryz.prog 32 #[.agg #[.string a1, .string a2], .agg #[.string b1, .string b2]] w (RatPost (noR, 40) w) := by
  have VA := Lib.hid (fun w => ref4Valid_is hva w ha)
  have VB := Lib.hid (fun w => ref4Valid_is hvb w hb)
  clear hva hvb ha hb
  have q0 : Blk (((w.alloc (.cells #[.string a1, .string a2] 23)).alloc (.cells #[.string b1, .string b2] 23)).alloc (.cells #[.string ⟨#[]⟩, .string ⟨#[]⟩] 23)) (w.heap.size) #[.string a1, .string a2] 23 := ((Blk.new w _ _).alloc _).alloc _
  have q1 : Blk (((w.alloc (.cells #[.string a1, .string a2] 23)).alloc (.cells #[.string b1, .string b2] 23)).alloc (.cells #[.string ⟨#[]⟩, .string ⟨#[]⟩] 23)) (w.heap.size + 1) #[.string b1, .string b2] 23 := (Blk.newAt _ _ _ (by simp)).alloc _
  have q2 : Blk (((w.alloc (.cells #[.string a1, .string a2] 23)).alloc (.cells #[.string b1, .string b2] 23)).alloc (.cells #[.string ⟨#[]⟩, .string ⟨#[]⟩] 23)) (w.heap.size + 2) #[.string ⟨#[]⟩, .string ⟨#[]⟩] 23 := Blk.newAt _ _ _ (by simp)
  have qL : Below w.heap.size w (((w.alloc (.cells #[.string a1, .string a2] 23)).alloc (.cells #[.string b1, .string b2] 23)).alloc (.cells #[.string ⟨#[]⟩, .string ⟨#[]⟩] 23)) := (((Below.refl _ w).alloc (Nat.le_refl _) _).alloc (by simp <;> omega) _).alloc (by simp <;> omega) _
  have A0 := Lib.hid q0
  have B0 := Lib.hid q1
  have R0 := Lib.hid q2
  have L0 := Lib.hid qL
  clear qL q0 q1 q2
  go_enter Tryz.func32, Tryz.ntmps32
  go_wp2_with fail
  try simp only [Nat.add_assoc, Nat.reduceAdd]
  generalize (((w.alloc (.cells #[.string a1, .string a2] 23)).alloc (.cells #[.string b1, .string b2] 23)).alloc (.cells #[.string ⟨#[]⟩, .string ⟨#[]⟩] 23)) = w0 at *
  obtain ⟨a00, a01, a0f, a0g, a0l⟩ := blk2 A0.out
  obtain ⟨b00, b01, b0f, b0g, b0l⟩ := blk2 B0.out
  obtain ⟨r00, r01, r0f, r0g, r0l⟩ := blk2 R0.out
  refine (VA.out _).mono ?_
  rintro e w1 ⟨rfl, hb1⟩
  have A1 := Lib.hid (Blk.below A0.out hb1 A0.out.lt)
  have B1 := Lib.hid (Blk.below B0.out hb1 B0.out.lt)
  have R1 := Lib.hid (Blk.below R0.out hb1 R0.out.lt)
  have L1 := Lib.hid (L0.out.trans (hb1.mono L0.out.size))
  clear hb1
  obtain ⟨a10, a11, a1f, a1g, a1l⟩ := blk2 A1.out
  obtain ⟨b10, b11, b1f, b1g, b1l⟩ := blk2 B1.out
  obtain ⟨r10, r11, r1f, r1g, r1l⟩ := blk2 R1.out
  go_wp2_with fail
  refine (VB.out _).mono ?_
  rintro e w2 ⟨rfl, hb2⟩
  have A2 := Lib.hid (Blk.below A1.out hb2 A1.out.lt)
  have B2 := Lib.hid (Blk.below B1.out hb2 B1.out.lt)
  have R2 := Lib.hid (Blk.below R1.out hb2 R1.out.lt)
  have L2 := Lib.hid (L1.out.trans (hb2.mono L1.out.size))
  clear hb2
  obtain ⟨a20, a21, a2f, a2g, a2l⟩ := blk2 A2.out
  obtain ⟨b20, b21, b2f, b2g, b2l⟩ := blk2 B2.out
  obtain ⟨r20, r21, r2f, r2g, r2l⟩ := blk2 R2.out
  go_wp2
  refine bodyPost_ret (v := vRE (noR, 40)) (by simp [results, Tryz.results32, go_sem, noR, r20, r21, r2f, r2g, r2l]; rfl) rfl ⟨rfl, ?_⟩
  exact (L2.out.setCell (by simp) _).setCell (by simp) _
set_option maxRecDepth 100000 in
set_option maxHeartbeats 1000000 in
theorem ref4Mul_f (a1 a2 b1 b2 : ByteArray) (hva : rV (a1, a2) = true) (hvb : rV (b1, b2) = true) (v1 : vS a1 = true) (v2 : vS b1 = true) (v3 : vS a2 = true) (v4 : vS b2 = true) (h1 : small (nS a1 * nS b1) = false) (w : World) (ha : Sz (a1, a2)) (hb : Sz (b1, b2)) :
    Calls Tryz.prog 32 #[.agg #[.string a1, .string a2], .agg #[.string b1, .string b2]] w (RatPost (noR, 40) w) := by
  have VA := Lib.hid (fun w => ref4Valid_is hva w ha)
  have VB := Lib.hid (fun w => ref4Valid_is hvb w hb)
  have M1 := Lib.hid (fun w => refMul_any a1 b1 w ha.1 hb.1)
  have M2 := Lib.hid (fun w => refMul_any a2 b2 w ha.2 hb.2)
  rw [mul_comm_no v1 v2 h1] at M1
  generalize iMul a2 b2 = r2 at *
  obtain ⟨x2, e2⟩ := r2
  clear hva hvb ha hb v1 v2 v3 v4 h1
  have q0 : Blk (((w.alloc (.cells #[.string a1, .string a2] 23)).alloc (.cells #[.string b1, .string b2] 23)).alloc (.cells #[.string ⟨#[]⟩, .string ⟨#[]⟩] 23)) (w.heap.size) #[.string a1, .string a2] 23 := ((Blk.new w _ _).alloc _).alloc _
  have q1 : Blk (((w.alloc (.cells #[.string a1, .string a2] 23)).alloc (.cells #[.string b1, .string b2] 23)).alloc (.cells #[.string ⟨#[]⟩, .string ⟨#[]⟩] 23)) (w.heap.size + 1) #[.string b1, .string b2] 23 := (Blk.newAt _ _ _ (by simp)).alloc _
  have q2 : Blk (((w.alloc (.cells #[.string a1, .string a2] 23)).alloc (.cells #[.string b1, .string b2] 23)).alloc (.cells #[.string ⟨#[]⟩, .string ⟨#[]⟩] 23)) (w.heap.size + 2) #[.string ⟨#[]⟩, .string ⟨#[]⟩] 23 := Blk.newAt _ _ _ (by simp)
  have qL : Below w.heap.size w (((w.alloc (.cells #[.string a1, .string a2] 23)).alloc (.cells #[.string b1, .string b2] 23)).alloc (.cells #[.string ⟨#[]⟩, .string ⟨#[]⟩] 23)) := (((Below.refl _ w).alloc (Nat.le_refl _) _).alloc (by simp <;> omega) _).alloc (by simp <;> omega) _
  have A0 := Lib.hid q0
  have B0 := Lib.hid q1
  have R0 := Lib.hid q2
  have L0 := Lib.hid qL
  clear qL q0 q1 q2
  go_enter Tryz.func32, Tryz.ntmps32
  go_wp2_with fail
  try simp only [Nat.add_assoc, Nat.reduceAdd]
  generalize (((w.alloc (.cells #[.string a1, .string a2] 23)).alloc (.cells #[.string b1, .string b2] 23)).alloc (.cells #[.string ⟨#[]⟩, .string ⟨#[]⟩] 23)) = w0 at *
  obtain ⟨a00, a01, a0f, a0g, a0l⟩ := blk2 A0.out
  obtain ⟨b00, b01, b0f, b0g, b0l⟩ := blk2 B0.out
  obtain ⟨r00, r01, r0f, r0g, r0l⟩ := blk2 R0.out
  refine (VA.out _).mono ?_
  rintro e w1 ⟨rfl, hb1⟩
  have A1 := Lib.hid (Blk.below A0.out hb1 A0.out.lt)
  have B1 := Lib.hid (Blk.below B0.out hb1 B0.out.lt)
  have R1 := Lib.hid (Blk.below R0.out hb1 R0.out.lt)
  have L1 := Lib.hid (L0.out.trans (hb1.mono L0.out.size))
  clear hb1
  obtain ⟨a10, a11, a1f, a1g, a1l⟩ := blk2 A1.out
  obtain ⟨b10, b11, b1f, b1g, b1l⟩ := blk2 B1.out
  obtain ⟨r10, r11, r1f, r1g, r1l⟩ := blk2 R1.out
  go_wp2_with fail
  refine (VB.out _).mono ?_
  rintro e w2 ⟨rfl, hb2⟩
  have A2 := Lib.hid (Blk.below A1.out hb2 A1.out.lt)
  have B2 := Lib.hid (Blk.below B1.out hb2 B1.out.lt)
  have R2 := Lib.hid (Blk.below R1.out hb2 R1.out.lt)
  have L2 := Lib.hid (L1.out.trans (hb2.mono L1.out.size))
  clear hb2
  obtain ⟨a20, a21, a2f, a2g, a2l⟩ := blk2 A2.out
  obtain ⟨b20, b21, b2f, b2g, b2l⟩ := blk2 B2.out
  obtain ⟨r20, r21, r2f, r2g, r2l⟩ := blk2 R2.out
  go_wp2_with fail
  refine (M1.out _).mono ?_
  rintro e w3 ⟨rfl, hb3⟩
  have A3 := Lib.hid (Blk.below A2.out hb3 A2.out.lt)
  have B3 := Lib.hid (Blk.below B2.out hb3 B2.out.lt)
  have R3 := Lib.hid (Blk.below R2.out hb3 R2.out.lt)
  have L3 := Lib.hid (L2.out.trans (hb3.mono L2.out.size))
  clear hb3
  obtain ⟨a30, a31, a3f, a3g, a3l⟩ := blk2 A3.out
  obtain ⟨b30, b31, b3f, b3g, b3l⟩ := blk2 B3.out
  obtain ⟨r30, r31, r3f, r3g, r3l⟩ := blk2 R3.out
  go_wp2_with fail
  refine (M2.out _).mono ?_
  rintro e w4 ⟨rfl, hb4⟩
  have A4 := Lib.hid (Blk.below A3.out hb4 A3.out.lt)
  have B4 := Lib.hid (Blk.below B3.out hb4 B3.out.lt)
  have R4 := Lib.hid (Blk.below R3.out hb4 R3.out.lt)
  have L4 := Lib.hid (L3.out.trans (hb4.mono L3.out.size))
  clear hb4
  obtain ⟨a40, a41, a4f, a4g, a4l⟩ := blk2 A4.out
  obtain ⟨b40, b41, b4f, b4g, b4l⟩ := blk2 B4.out
  obtain ⟨r40, r41, r4f, r4g, r4l⟩ := blk2 R4.out
  go_wp2
  refine bodyPost_ret (v := vRE (noR, 40)) (by simp [results, Tryz.results32, go_sem, noR, r40, r41, r4f, r4g, r4l]; rfl) rfl ⟨rfl, ?_⟩
  exact (L4.out.setCell (by simp) _).setCell (by simp) _
set_option maxRecDepth 100000 in
set_option maxHeartbeats 1000000 in
theorem ref4Mul_tf (a1 a2 b1 b2 : ByteArray) (hva : rV (a1, a2) = true) (hvb : rV (b1, b2) = true) (v1 : vS a1 = true) (v2 : vS b1 = true) (v3 : vS a2 = true) (v4 : vS b2 = true) (h1 : small (nS a1 * nS b1) = true) (h2 : small (nS a2 * nS b2) = false) (w : World) (ha : Sz (a1, a2)) (hb : Sz (b1, b2)) :
    Calls Tryz.prog 32 #[.agg #[.string a1, .string a2], .agg #[.string b1, .string b2]] w (RatPost (noR, 40) w) := by
  have VA := Lib.hid (fun w => ref4Valid_is hva w ha)
  have VB := Lib.hid (fun w => ref4Valid_is hvb w hb)
  have M1 := Lib.hid (fun w => refMul_any a1 b1 w ha.1 hb.1)
  have M2 := Lib.hid (fun w => refMul_any a2 b2 w ha.2 hb.2)
  rw [iMul_val v1 v2 h1] at M1
  rw [mul_comm_no v3 v4 h2] at M2
  generalize ofI (nS a1 * nS b1) = x1 at *
  clear hva hvb ha hb v1 v2 v3 v4 h1 h2
  have q0 : Blk (((w.alloc (.cells #[.string a1, .string a2] 23)).alloc (.cells #[.string b1, .string b2] 23)).alloc (.cells #[.string ⟨#[]⟩, .string ⟨#[]⟩] 23)) (w.heap.size) #[.string a1, .string a2] 23 := ((Blk.new w _ _).alloc _).alloc _
  have q1 : Blk (((w.alloc (.cells #[.string a1, .string a2] 23)).alloc (.cells #[.string b1, .string b2] 23)).alloc (.cells #[.string ⟨#[]⟩, .string ⟨#[]⟩] 23)) (w.heap.size + 1) #[.string b1, .string b2] 23 := (Blk.newAt _ _ _ (by simp)).alloc _
  have q2 : Blk (((w.alloc (.cells #[.string a1, .string a2] 23)).alloc (.cells #[.string b1, .string b2] 23)).alloc (.cells #[.string ⟨#[]⟩, .string ⟨#[]⟩] 23)) (w.heap.size + 2) #[.string ⟨#[]⟩, .string ⟨#[]⟩] 23 := Blk.newAt _ _ _ (by simp)
  have qL : Below w.heap.size w (((w.alloc (.cells #[.string a1, .string a2] 23)).alloc (.cells #[.string b1, .string b2] 23)).alloc (.cells #[.string ⟨#[]⟩, .string ⟨#[]⟩] 23)) := (((Below.refl _ w).alloc (Nat.le_refl _) _).alloc (by simp <;> omega) _).alloc (by simp <;> omega) _
  have A0 := Lib.hid q0
  have B0 := Lib.hid q1
  have R0 := Lib.hid q2
  have L0 := Lib.hid qL
  clear qL q0 q1 q2
  go_enter Tryz.func32, Tryz.ntmps32
  go_wp2_with fail
  try simp only [Nat.add_assoc, Nat.reduceAdd]
  generalize (((w.alloc (.cells #[.string a1, .string a2] 23)).alloc (.cells #[.string b1, .string b2] 23)).alloc (.cells #[.string ⟨#[]⟩, .string ⟨#[]⟩] 23)) = w0 at *
  obtain ⟨a00, a01, a0f, a0g, a0l⟩ := blk2 A0.out
  obtain ⟨b00, b01, b0f, b0g, b0l⟩ := blk2 B0.out
  obtain ⟨r00, r01, r0f, r0g, r0l⟩ := blk2 R0.out
  refine (VA.out _).mono ?_
  rintro e w1 ⟨rfl, hb1⟩
  have A1 := Lib.hid (Blk.below A0.out hb1 A0.out.lt)
  have B1 := Lib.hid (Blk.below B0.out hb1 B0.out.lt)
  have R1 := Lib.hid (Blk.below R0.out hb1 R0.out.lt)
  have L1 := Lib.hid (L0.out.trans (hb1.mono L0.out.size))
  clear hb1
  obtain ⟨a10, a11, a1f, a1g, a1l⟩ := blk2 A1.out
  obtain ⟨b10, b11, b1f, b1g, b1l⟩ := blk2 B1.out
  obtain ⟨r10, r11, r1f, r1g, r1l⟩ := blk2 R1.out
  go_wp2_with fail
  refine (VB.out _).mono ?_
  rintro e w2 ⟨rfl, hb2⟩
  have A2 := Lib.hid (Blk.below A1.out hb2 A1.out.lt)
  have B2 := Lib.hid (Blk.below B1.out hb2 B1.out.lt)
  have R2 := Lib.hid (Blk.below R1.out hb2 R1.out.lt)
  have L2 := Lib.hid (L1.out.trans (hb2.mono L1.out.size))
  clear hb2
  obtain ⟨a20, a21, a2f, a2g, a2l⟩ := blk2 A2.out
  obtain ⟨b20, b21, b2f, b2g, b2l⟩ := blk2 B2.out
  obtain ⟨r20, r21, r2f, r2g, r2l⟩ := blk2 R2.out
  go_wp2_with fail
  refine (M1.out _).mono ?_
  rintro e w3 ⟨rfl, hb3⟩
  have A3 := Lib.hid (Blk.below A2.out hb3 A2.out.lt)
  have B3 := Lib.hid (Blk.below B2.out hb3 B2.out.lt)
  have R3 := Lib.hid (Blk.below R2.out hb3 R2.out.lt)
  have L3 := Lib.hid (L2.out.trans (hb3.mono L2.out.size))
  clear hb3
  obtain ⟨a30, a31, a3f, a3g, a3l⟩ := blk2 A3.out
  obtain ⟨b30, b31, b3f, b3g, b3l⟩ := blk2 B3.out
  obtain ⟨r30, r31, r3f, r3g, r3l⟩ := blk2 R3.out
  go_wp2_with fail
  refine (M2.out _).mono ?_
  rintro e w4 ⟨rfl, hb4⟩
  have A4 := Lib.hid (Blk.below A3.out hb4 A3.out.lt)
  have B4 := Lib.hid (Blk.below B3.out hb4 B3.out.lt)
  have R4 := Lib.hid (Blk.below R3.out hb4 R3.out.lt)
  have L4 := Lib.hid (L3.out.trans (hb4.mono L3.out.size))
  clear hb4
  obtain ⟨a40, a41, a4f, a4g, a4l⟩ := blk2 A4.out
  obtain ⟨b40, b41, b4f, b4g, b4l⟩ := blk2 B4.out
  obtain ⟨r40, r41, r4f, r4g, r4l⟩ := blk2 R4.out
  go_wp2
  refine bodyPost_ret (v := vRE (noR, 40)) (by simp [results, Tryz.results32, go_sem, noR, r40, r41, r4f, r4g, r4l]; rfl) rfl ⟨rfl, ?_⟩
  exact (L4.out.setCell (by simp) _).setCell (by simp) _
set_option maxRecDepth 100000 in
set_option maxHeartbeats 1000000 in
theorem ref4Mul_tt (a1 a2 b1 b2 : ByteArray) (hva : rV (a1, a2) = true) (hvb : rV (b1, b2) = true) (v1 : vS a1 = true) (v2 : vS b1 = true) (v3 : vS a2 = true) (v4 : vS b2 = true) (h1 : small (nS a1 * nS b1) = true) (h2 : small (nS a2 * nS b2) = true) (w : World) (ha : Sz (a1, a2)) (hb : Sz (b1, b2)) :
    Calls Tryz.prog 32 #[.agg #[.string a1, .string a2], .agg #[.string b1, .string b2]] w (RatPost (rMk (nS a1 * nS b1) (nS a2 * nS b2)) w) := by
  have VA := Lib.hid (fun w => ref4Valid_is hva w ha)
  have VB := Lib.hid (fun w => ref4Valid_is hvb w hb)
  have M1 := Lib.hid (fun w => refMul_any a1 b1 w ha.1 hb.1)
  have M2 := Lib.hid (fun w => refMul_any a2 b2 w ha.2 hb.2)
  rw [iMul_val v1 v2 h1] at M1
  rw [iMul_val v3 v4 h2] at M2
  have K := Lib.hid (fun w => ref4Make_any (ofI (nS a1 * nS b1)) (ofI (nS a2 * nS b2)) w (size_vS (vS_small h1)) (size_vS (vS_small h2)))
  rw [rMake_ofI] at K
  generalize rMk (nS a1 * nS b1) (nS a2 * nS b2) = r at *
  generalize ofI (nS a1 * nS b1) = x1 at *
  generalize ofI (nS a2 * nS b2) = x2 at *
  clear hva hvb ha hb v1 v2 v3 v4 h1 h2
  have q0 : Blk (((w.alloc (.cells #[.string a1, .string a2] 23)).alloc (.cells #[.string b1, .string b2] 23)).alloc (.cells #[.string ⟨#[]⟩, .string ⟨#[]⟩] 23)) (w.heap.size) #[.string a1, .string a2] 23 := ((Blk.new w _ _).alloc _).alloc _
  have q1 : Blk (((w.alloc (.cells #[.string a1, .string a2] 23)).alloc (.cells #[.string b1, .string b2] 23)).alloc (.cells #[.string ⟨#[]⟩, .string ⟨#[]⟩] 23)) (w.heap.size + 1) #[.string b1, .string b2] 23 := (Blk.newAt _ _ _ (by simp)).alloc _
  have q2 : Blk (((w.alloc (.cells #[.string a1, .string a2] 23)).alloc (.cells #[.string b1, .string b2] 23)).alloc (.cells #[.string ⟨#[]⟩, .string ⟨#[]⟩] 23)) (w.heap.size + 2) #[.string ⟨#[]⟩, .string ⟨#[]⟩] 23 := Blk.newAt _ _ _ (by simp)
  have qL : Below w.heap.size w (((w.alloc (.cells #[.string a1, .string a2] 23)).alloc (.cells #[.string b1, .string b2] 23)).alloc (.cells #[.string ⟨#[]⟩, .string ⟨#[]⟩] 23)) := (((Below.refl _ w).alloc (Nat.le_refl _) _).alloc (by simp <;> omega) _).alloc (by simp <;> omega) _
  have A0 := Lib.hid q0
  have B0 := Lib.hid q1
  have R0 := Lib.hid q2
  have L0 := Lib.hid qL
  clear qL q0 q1 q2
  go_enter Tryz.func32, Tryz.ntmps32
  go_wp2_with fail
  try simp only [Nat.add_assoc, Nat.reduceAdd]
  generalize (((w.alloc (.cells #[.string a1, .string a2] 23)).alloc (.cells #[.string b1, .string b2] 23)).alloc (.cells #[.string ⟨#[]⟩, .string ⟨#[]⟩] 23)) = w0 at *
  obtain ⟨a00, a01, a0f, a0g, a0l⟩ := blk2 A0.out
  obtain ⟨b00, b01, b0f, b0g, b0l⟩ := blk2 B0.out
  obtain ⟨r00, r01, r0f, r0g, r0l⟩ := blk2 R0.out
  refine (VA.out _).mono ?_
  rintro e w1 ⟨rfl, hb1⟩
  have A1 := Lib.hid (Blk.below A0.out hb1 A0.out.lt)
  have B1 := Lib.hid (Blk.below B0.out hb1 B0.out.lt)
  have R1 := Lib.hid (Blk.below R0.out hb1 R0.out.lt)
  have L1 := Lib.hid (L0.out.trans (hb1.mono L0.out.size))
  clear hb1
  obtain ⟨a10, a11, a1f, a1g, a1l⟩ := blk2 A1.out
  obtain ⟨b10, b11, b1f, b1g, b1l⟩ := blk2 B1.out
  obtain ⟨r10, r11, r1f, r1g, r1l⟩ := blk2 R1.out
  go_wp2_with fail
  refine (VB.out _).mono ?_
  rintro e w2 ⟨rfl, hb2⟩
  have A2 := Lib.hid (Blk.below A1.out hb2 A1.out.lt)
  have B2 := Lib.hid (Blk.below B1.out hb2 B1.out.lt)
  have R2 := Lib.hid (Blk.below R1.out hb2 R1.out.lt)
  have L2 := Lib.hid (L1.out.trans (hb2.mono L1.out.size))
  clear hb2
  obtain ⟨a20, a21, a2f, a2g, a2l⟩ := blk2 A2.out
  obtain ⟨b20, b21, b2f, b2g, b2l⟩ := blk2 B2.out
  obtain ⟨r20, r21, r2f, r2g, r2l⟩ := blk2 R2.out
  go_wp2_with fail
  refine (M1.out _).mono ?_
  rintro e w3 ⟨rfl, hb3⟩
  have A3 := Lib.hid (Blk.below A2.out hb3 A2.out.lt)
  have B3 := Lib.hid (Blk.below B2.out hb3 B2.out.lt)
  have R3 := Lib.hid (Blk.below R2.out hb3 R2.out.lt)
  have L3 := Lib.hid (L2.out.trans (hb3.mono L2.out.size))
  clear hb3
  obtain ⟨a30, a31, a3f, a3g, a3l⟩ := blk2 A3.out
  obtain ⟨b30, b31, b3f, b3g, b3l⟩ := blk2 B3.out
  obtain ⟨r30, r31, r3f, r3g, r3l⟩ := blk2 R3.out
  go_wp2_with fail
  refine (M2.out _).mono ?_
  rintro e w4 ⟨rfl, hb4⟩
  have A4 := Lib.hid (Blk.below A3.out hb4 A3.out.lt)
  have B4 := Lib.hid (Blk.below B3.out hb4 B3.out.lt)
  have R4 := Lib.hid (Blk.below R3.out hb4 R3.out.lt)
  have L4 := Lib.hid (L3.out.trans (hb4.mono L3.out.size))
  clear hb4
  obtain ⟨a40, a41, a4f, a4g, a4l⟩ := blk2 A4.out
  obtain ⟨b40, b41, b4f, b4g, b4l⟩ := blk2 B4.out
  obtain ⟨r40, r41, r4f, r4g, r4l⟩ := blk2 R4.out
  go_wp2_with fail
  refine (K.out _).mono ?_
  rintro e w5 ⟨rfl, hb5⟩
  have A5 := Lib.hid (Blk.below A4.out hb5 A4.out.lt)
  have B5 := Lib.hid (Blk.below B4.out hb5 B4.out.lt)
  have R5 := Lib.hid (Blk.below R4.out hb5 R4.out.lt)
  have L5 := Lib.hid (L4.out.trans (hb5.mono L4.out.size))
  clear hb5
  obtain ⟨a50, a51, a5f, a5g, a5l⟩ := blk2 A5.out
  obtain ⟨b50, b51, b5f, b5g, b5l⟩ := blk2 B5.out
  obtain ⟨r50, r51, r5f, r5g, r5l⟩ := blk2 R5.out
  obtain ⟨⟨q1, q2⟩, q3⟩ := r
  go_wp2
  refine bodyPost_ret (v := vRE ((q1, q2), q3)) (by simp [results, Tryz.results32, go_sem, r50, r51, r5f, r5g, r5l]) rfl ⟨rfl, ?_⟩
  exact (L5.out.setCell (by simp) _).setCell (by simp) _
theorem ref4Mul_any (a b : RS) (w : World) (ha : Sz a) (hb : Sz b) : Calls Tryz.prog 32 #[vR a, vR b] w (RatPost (rMul a b) w) := by
  obtain ⟨a1, a2⟩ := a
  obtain ⟨b1, b2⟩ := b
  show Calls _ _ #[.agg #[.string a1, .string a2], .agg #[.string b1, .string b2]] _ _
  unfold rMul
  cases hva : rV (a1, a2) with
  | false => rw [if_neg (by simp)]; exact ref4Mul_no1 a1 a2 b1 b2 hva _ rfl w ha hb
  | true =>
    cases hvb : rV (b1, b2) with
    | false => rw [if_neg (by simp)]; exact ref4Mul_no2 a1 a2 b1 b2 hva hvb w ha hb
    | true =>
      rw [if_pos (by simp)]
      obtain ⟨p1, p2, _, _⟩ := rV_parts hva
      obtain ⟨p3, p4, _, _⟩ := rV_parts hvb
      cases h1 : small (nS a1 * nS b1) with
      | false => rw [rMk_no (by simp [h1])]; exact ref4Mul_f a1 a2 b1 b2 hva hvb (by assumption) (by assumption) (by assumption) (by assumption) h1 w ha hb
      | true =>
        cases h2 : small (nS a2 * nS b2) with
        | false => rw [rMk_no (by simp [h2])]; exact ref4Mul_tf a1 a2 b1 b2 hva hvb (by assumption) (by assumption) (by assumption) (by assumption) h1 h2 w ha hb
        | true => exact ref4Mul_tt a1 a2 b1 b2 hva hvb (by assumption) (by assumption) (by assumption) (by assumption) h1 h2 w ha hb
set_option maxRecDepth 100000 in
set_option maxHeartbeats 1000000 in
theorem ref4Div_no1 (a1 a2 b1 b2 : ByteArray) (hva : rV (a1, a2) = false) (v : Bool) (hvb : rV (b1, b2) = v) (w : World) (ha : Sz (a1, a2)) (hb : Sz (b1, b2)) :
    Calls Tryz.prog 33 #[.agg #[.string a1, .string a2], .agg #[.string b1, .string b2]] w (RatPost (noR, 40) w) := by
  have VA := Lib.hid (fun w => ref4Valid_is hva w ha)
  have VB := Lib.hid (fun w => ref4Valid_is hvb w hb)
  clear hva hvb ha hb
  have q0 : Blk (((w.alloc (.cells #[.string a1, .string a2] 23)).alloc (.cells #[.string b1, .string b2] 23)).alloc (.cells #[.string ⟨#[]⟩, .string ⟨#[]⟩] 23)) (w.heap.size) #[.string a1, .string a2] 23 := ((Blk.new w _ _).alloc _).alloc _
  have q1 : Blk (((w.alloc (.cells #[.string a1, .string a2] 23)).alloc (.cells #[.string b1, .string b2] 23)).alloc (.cells #[.string ⟨#[]⟩, .string ⟨#[]⟩] 23)) (w.heap.size + 1) #[.string b1, .string b2] 23 := (Blk.newAt _ _ _ (by simp)).alloc _
  have q2 : Blk (((w.alloc (.cells #[.string a1, .string a2] 23)).alloc (.cells #[.string b1, .string b2] 23)).alloc (.cells #[.string ⟨#[]⟩, .string ⟨#[]⟩] 23)) (w.heap.size + 2) #[.string ⟨#[]⟩, .string ⟨#[]⟩] 23 := Blk.newAt _ _ _ (by simp)
  have qL : Below w.heap.size w (((w.alloc (.cells #[.string a1, .string a2] 23)).alloc (.cells #[.string b1, .string b2] 23)).alloc (.cells #[.string ⟨#[]⟩, .string ⟨#[]⟩] 23)) := (((Below.refl _ w).alloc (Nat.le_refl _) _).alloc (by simp <;> omega) _).alloc (by simp <;> omega) _
  have A0 := Lib.hid q0
  have B0 := Lib.hid q1
  have R0 := Lib.hid q2
  have L0 := Lib.hid qL
  clear qL q0 q1 q2
  go_enter Tryz.func33, Tryz.ntmps33
  go_wp2_with fail
  try simp only [Nat.add_assoc, Nat.reduceAdd]
  generalize (((w.alloc (.cells #[.string a1, .string a2] 23)).alloc (.cells #[.string b1, .string b2] 23)).alloc (.cells #[.string ⟨#[]⟩, .string ⟨#[]⟩] 23)) = w0 at *
  obtain ⟨a00, a01, a0f, a0g, a0l⟩ := blk2 A0.out
  obtain ⟨b00, b01, b0f, b0g, b0l⟩ := blk2 B0.out
  obtain ⟨r00, r01, r0f, r0g, r0l⟩ := blk2 R0.out
  refine (VA.out _).mono ?_
  rintro e w1 ⟨rfl, hb1⟩
  have A1 := Lib.hid (Blk.below A0.out hb1 A0.out.lt)
  have B1 := Lib.hid (Blk.below B0.out hb1 B0.out.lt)
  have R1 := Lib.hid (Blk.below R0.out hb1 R0.out.lt)
  have L1 := Lib.hid (L0.out.trans (hb1.mono L0.out.size))
  clear hb1
  obtain ⟨a10, a11, a1f, a1g, a1l⟩ := blk2 A1.out
  obtain ⟨b10, b11, b1f, b1g, b1l⟩ := blk2 B1.out
  obtain ⟨r10, r11, r1f, r1g, r1l⟩ := blk2 R1.out
  go_wp2_with fail
  refine (VB.out _).mono ?_
  rintro e w2 ⟨rfl, hb2⟩
  have A2 := Lib.hid (Blk.below A1.out hb2 A1.out.lt)
  have B2 := Lib.hid (Blk.below B1.out hb2 B1.out.lt)
  have R2 := Lib.hid (Blk.below R1.out hb2 R1.out.lt)
  have L2 := Lib.hid (L1.out.trans (hb2.mono L1.out.size))
  clear hb2
  obtain ⟨a20, a21, a2f, a2g, a2l⟩ := blk2 A2.out
  obtain ⟨b20, b21, b2f, b2g, b2l⟩ := blk2 B2.out
  obtain ⟨r20, r21, r2f, r2g, r2l⟩ := blk2 R2.out
  cases v
  · skip
    go_wp2
    refine bodyPost_ret (v := vRE (noR, 40)) (by simp [results, Tryz.results33, go_sem, noR, r20, r21, r2f, r2g, r2l]; rfl) rfl ⟨rfl, ?_⟩
    exact (L2.out.setCell (by simp) _).setCell (by simp) _
  · skip
    go_wp2
    refine bodyPost_ret (v := vRE (noR, 40)) (by simp [results, Tryz.results33, go_sem, noR, r20, r21, r2f, r2g, r2l]; rfl) rfl ⟨rfl, ?_⟩
    exact (L2.out.setCell (by simp) _).setCell (by simp) _
set_option maxRecDepth 100000 in
set_option maxHeartbeats 1000000 in
theorem ref4Div_no2 (a1 a2 b1 b2 : ByteArray) (hva : rV (a1, a2) = true) (hvb : rV (b1, b2) = false) (w : World) (ha : Sz (a1, a2)) (hb : Sz (b1, b2)) :
    Calls Tryz.prog 33 #[.agg #[.string a1, .string a2], .agg #[.string b1, .string b2]] w (RatPost (noR, 40) w) := by
  have VA := Lib.hid (fun w => ref4Valid_is hva w ha)
  have VB := Lib.hid (fun w => ref4Valid_is hvb w hb)
  clear hva hvb ha hb
  have q0 : Blk (((w.alloc (.cells #[.string a1, .string a2] 23)).alloc (.cells #[.string b1, .string b2] 23)).alloc (.cells #[.string ⟨#[]⟩, .string ⟨#[]⟩] 23)) (w.heap.size) #[.string a1, .string a2] 23 := ((Blk.new w _ _).alloc _).alloc _
  have q1 : Blk (((w.alloc (.cells #[.string a1, .string a2] 23)).alloc (.cells #[.string b1, .string b2] 23)).alloc (.cells #[.string ⟨#[]⟩, .string ⟨#[]⟩] 23)) (w.heap.size + 1) #[.string b1, .string b2] 23 := (Blk.newAt _ _ _ (by simp)).alloc _
  have q2 : Blk (((w.alloc (.cells #[.string a1, .string a2] 23)).alloc (.cells #[.string b1, .string b2] 23)).alloc (.cells #[.string ⟨#[]⟩, .string ⟨#[]⟩] 23)) (w.heap.size + 2) #[.string ⟨#[]⟩, .string ⟨#[]⟩] 23 := Blk.newAt _ _ _ (by simp)
  have qL : Below w.heap.size w (((w.alloc (.cells #[.string a1, .string a2] 23)).alloc (.cells #[.string b1, .string b2] 23)).alloc (.cells #[.string ⟨#[]⟩, .string ⟨#[]⟩] 23)) := (((Below.refl _ w).alloc (Nat.le_refl _) _).alloc (by simp <;> omega) _).alloc (by simp <;> omega) _
  have A0 := Lib.hid q0
  have B0 := Lib.hid q1
  have R0 := Lib.hid q2
  have L0 := Lib.hid qL
  clear qL q0 q1 q2
  go_enter Tryz.func33, Tryz.ntmps33
  go_wp2_with fail
  try simp only [Nat.add_assoc, Nat.reduceAdd]
  generalize (((w.alloc (.cells #[.string a1, .string a2] 23)).alloc (.cells #[.string b1, .string b2] 23)).alloc (.cells #[.string ⟨#[]⟩, .string ⟨#[]⟩] 23)) = w0 at *
  obtain ⟨a00, a01, a0f, a0g, a0l⟩ := blk2 A0.out
  obtain ⟨b00, b01, b0f, b0g, b0l⟩ := blk2 B0.out
  obtain ⟨r00, r01, r0f, r0g, r0l⟩ := blk2 R0.out
  refine (VA.out _).mono ?_
  rintro e w1 ⟨rfl, hb1⟩
  have A1 := Lib.hid (Blk.below A0.out hb1 A0.out.lt)
  have B1 := Lib.hid (Blk.below B0.out hb1 B0.out.lt)
  have R1 := Lib.hid (Blk.below R0.out hb1 R0.out.lt)
  have L1 := Lib.hid (L0.out.trans (hb1.mono L0.out.size))
  clear hb1
  obtain ⟨a10, a11, a1f, a1g, a1l⟩ := blk2 A1.out
  obtain ⟨b10, b11, b1f, b1g, b1l⟩ := blk2 B1.out
  obtain ⟨r10, r11, r1f, r1g, r1l⟩ := blk2 R1.out
  go_wp2_with fail
  refine (VB.out _).mono ?_
  rintro e w2 ⟨rfl, hb2⟩
  have A2 := Lib.hid (Blk.below A1.out hb2 A1.out.lt)
  have B2 := Lib.hid (Blk.below B1.out hb2 B1.out.lt)
  have R2 := Lib.hid (Blk.below R1.out hb2 R1.out.lt)
  have L2 := Lib.hid (L1.out.trans (hb2.mono L1.out.size))
  clear hb2
  obtain ⟨a20, a21, a2f, a2g, a2l⟩ := blk2 A2.out
  obtain ⟨b20, b21, b2f, b2g, b2l⟩ := blk2 B2.out
  obtain ⟨r20, r21, r2f, r2g, r2l⟩ := blk2 R2.out
  go_wp2
  refine bodyPost_ret (v := vRE (noR, 40)) (by simp [results, Tryz.results33, go_sem, noR, r20, r21, r2f, r2g, r2l]; rfl) rfl ⟨rfl, ?_⟩
  exact (L2.out.setCell (by simp) _).setCell (by simp) _
set_option maxRecDepth 100000 in
set_option maxHeartbeats 1000000 in
theorem ref4Div_f (a1 a2 b1 b2 : ByteArray) (hva : rV (a1, a2) = true) (hvb : rV (b1, b2) = true) (v1 : vS a1 = true) (v2 : vS b2 = true) (v3 : vS a2 = true) (v4 : vS b1 = true) (h1 : small (nS a1 * nS b2) = false) (w : World) (ha : Sz (a1, a2)) (hb : Sz (b1, b2)) :
    Calls Tryz.prog 33 #[.agg #[.string a1, .string a2], .agg #[.string b1, .string b2]] w (RatPost (noR, 40) w) := by
  have VA := Lib.hid (fun w => ref4Valid_is hva w ha)
  have VB := Lib.hid (fun w => ref4Valid_is hvb w hb)
  have M1 := Lib.hid (fun w => refMul_any a1 b2 w ha.1 hb.2)
  have M2 := Lib.hid (fun w => refMul_any a2 b1 w ha.2 hb.1)
  rw [mul_comm_no v1 v2 h1] at M1
  generalize iMul a2 b1 = r2 at *
  obtain ⟨x2, e2⟩ := r2
  clear hva hvb ha hb v1 v2 v3 v4 h1
  have q0 : Blk (((w.alloc (.cells #[.string a1, .string a2] 23)).alloc (.cells #[.string b1, .string b2] 23)).alloc (.cells #[.string ⟨#[]⟩, .string ⟨#[]⟩] 23)) (w.heap.size) #[.string a1, .string a2] 23 := ((Blk.new w _ _).alloc _).alloc _
  have q1 : Blk (((w.alloc (.cells #[.string a1, .string a2] 23)).alloc (.cells #[.string b1, .string b2] 23)).alloc (.cells #[.string ⟨#[]⟩, .string ⟨#[]⟩] 23)) (w.heap.size + 1) #[.string b1, .string b2] 23 := (Blk.newAt _ _ _ (by simp)).alloc _
  have q2 : Blk (((w.alloc (.cells #[.string a1, .string a2] 23)).alloc (.cells #[.string b1, .string b2] 23)).alloc (.cells #[.string ⟨#[]⟩, .string ⟨#[]⟩] 23)) (w.heap.size + 2) #[.string ⟨#[]⟩, .string ⟨#[]⟩] 23 := Blk.newAt _ _ _ (by simp)
  have qL : Below w.heap.size w (((w.alloc (.cells #[.string a1, .string a2] 23)).alloc (.cells #[.string b1, .string b2] 23)).alloc (.cells #[.string ⟨#[]⟩, .string ⟨#[]⟩] 23)) := (((Below.refl _ w).alloc (Nat.le_refl _) _).alloc (by simp <;> omega) _).alloc (by simp <;> omega) _
  have A0 := Lib.hid q0
  have B0 := Lib.hid q1
  have R0 := Lib.hid q2
  have L0 := Lib.hid qL
  clear qL q0 q1 q2
  go_enter Tryz.func33, Tryz.ntmps33
  go_wp2_with fail
  try simp only [Nat.add_assoc, Nat.reduceAdd]
  generalize (((w.alloc (.cells #[.string a1, .string a2] 23)).alloc (.cells #[.string b1, .string b2] 23)).alloc (.cells #[.string ⟨#[]⟩, .string ⟨#[]⟩] 23)) = w0 at *
  obtain ⟨a00, a01, a0f, a0g, a0l⟩ := blk2 A0.out
  obtain ⟨b00, b01, b0f, b0g, b0l⟩ := blk2 B0.out
  obtain ⟨r00, r01, r0f, r0g, r0l⟩ := blk2 R0.out
  refine (VA.out _).mono ?_
  rintro e w1 ⟨rfl, hb1⟩
  have A1 := Lib.hid (Blk.below A0.out hb1 A0.out.lt)
  have B1 := Lib.hid (Blk.below B0.out hb1 B0.out.lt)
  have R1 := Lib.hid (Blk.below R0.out hb1 R0.out.lt)
  have L1 := Lib.hid (L0.out.trans (hb1.mono L0.out.size))
  clear hb1
  obtain ⟨a10, a11, a1f, a1g, a1l⟩ := blk2 A1.out
  obtain ⟨b10, b11, b1f, b1g, b1l⟩ := blk2 B1.out
  obtain ⟨r10, r11, r1f, r1g, r1l⟩ := blk2 R1.out
  go_wp2_with fail
  refine (VB.out _).mono ?_
  rintro e w2 ⟨rfl, hb2⟩
  have A2 := Lib.hid (Blk.below A1.out hb2 A1.out.lt)
  have B2 := Lib.hid (Blk.below B1.out hb2 B1.out.lt)
  have R2 := Lib.hid (Blk.below R1.out hb2 R1.out.lt)
  have L2 := Lib.hid (L1.out.trans (hb2.mono L1.out.size))
  clear hb2
  obtain ⟨a20, a21, a2f, a2g, a2l⟩ := blk2 A2.out
  obtain ⟨b20, b21, b2f, b2g, b2l⟩ := blk2 B2.out
  obtain ⟨r20, r21, r2f, r2g, r2l⟩ := blk2 R2.out
  go_wp2_with fail
  refine (M1.out _).mono ?_
  rintro e w3 ⟨rfl, hb3⟩
  have A3 := Lib.hid (Blk.below A2.out hb3 A2.out.lt)
  have B3 := Lib.hid (Blk.below B2.out hb3 B2.out.lt)
  have R3 := Lib.hid (Blk.below R2.out hb3 R2.out.lt)
  have L3 := Lib.hid (L2.out.trans (hb3.mono L2.out.size))
  clear hb3
  obtain ⟨a30, a31, a3f, a3g, a3l⟩ := blk2 A3.out
  obtain ⟨b30, b31, b3f, b3g, b3l⟩ := blk2 B3.out
  obtain ⟨r30, r31, r3f, r3g, r3l⟩ := blk2 R3.out
  go_wp2_with fail
  refine (M2.out _).mono ?_
  rintro e w4 ⟨rfl, hb4⟩
  have A4 := Lib.hid (Blk.below A3.out hb4 A3.out.lt)
  have B4 := Lib.hid (Blk.below B3.out hb4 B3.out.lt)
  have R4 := Lib.hid (Blk.below R3.out hb4 R3.out.lt)
  have L4 := Lib.hid (L3.out.trans (hb4.mono L3.out.size))
  clear hb4
  obtain ⟨a40, a41, a4f, a4g, a4l⟩ := blk2 A4.out
  obtain ⟨b40, b41, b4f, b4g, b4l⟩ := blk2 B4.out
  obtain ⟨r40, r41, r4f, r4g, r4l⟩ := blk2 R4.out
  go_wp2
  refine bodyPost_ret (v := vRE (noR, 40)) (by simp [results, Tryz.results33, go_sem, noR, r40, r41, r4f, r4g, r4l]; rfl) rfl ⟨rfl, ?_⟩
  exact (L4.out.setCell (by simp) _).setCell (by simp) _
set_option maxRecDepth 100000 in
set_option maxHeartbeats 1000000 in
theorem ref4Div_tf (a1 a2 b1 b2 : ByteArray) (hva : rV (a1, a2) = true) (hvb : rV (b1, b2) = true) (v1 : vS a1 = true) (v2 : vS b2 = true) (v3 : vS a2 = true) (v4 : vS b1 = true) (h1 : small (nS a1 * nS b2) = true) (h2 : small (nS a2 * nS b1) = false) (w : World) (ha : Sz (a1, a2)) (hb : Sz (b1, b2)) :
    Calls Tryz.prog 33 #[.agg #[.string a1, .string a2], .agg #[.string b1, .string b2]] w (RatPost (noR, 40) w) := by
  have VA := Lib.hid (fun w => ref4Valid_is hva w ha)
  have VB := Lib.hid (fun w => ref4Valid_is hvb w hb)
  have M1 := Lib.hid (fun w => refMul_any a1 b2 w ha.1 hb.2)
  have M2 := Lib.hid (fun w => refMul_any a2 b1 w ha.2 hb.1)
  rw [iMul_val v1 v2 h1] at M1
  rw [mul_comm_no v3 v4 h2] at M2
  generalize ofI (nS a1 * nS b2) = x1 at *
  clear hva hvb ha hb v1 v2 v3 v4 h1 h2
  have q0 : Blk (((w.alloc (.cells #[.string a1, .string a2] 23)).alloc (.cells #[.string b1, .string b2] 23)).alloc (.cells #[.string ⟨#[]⟩, .string ⟨#[]⟩] 23)) (w.heap.size) #[.string a1, .string a2] 23 := ((Blk.new w _ _).alloc _).alloc _
  have q1 : Blk (((w.alloc (.cells #[.string a1, .string a2] 23)).alloc (.cells #[.string b1, .string b2] 23)).alloc (.cells #[.string ⟨#[]⟩, .string ⟨#[]⟩] 23)) (w.heap.size + 1) #[.string b1, .string b2] 23 := (Blk.newAt _ _ _ (by simp)).alloc _
  have q2 : Blk (((w.alloc (.cells #[.string a1, .string a2] 23)).alloc (.cells #[.string b1, .string b2] 23)).alloc (.cells #[.string ⟨#[]⟩, .string ⟨#[]⟩] 23)) (w.heap.size + 2) #[.string ⟨#[]⟩, .string ⟨#[]⟩] 23 := Blk.newAt _ _ _ (by simp)
  have qL : Below w.heap.size w (((w.alloc (.cells #[.string a1, .string a2] 23)).alloc (.cells #[.string b1, .string b2] 23)).alloc (.cells #[.string ⟨#[]⟩, .string ⟨#[]⟩] 23)) := (((Below.refl _ w).alloc (Nat.le_refl _) _).alloc (by simp <;> omega) _).alloc (by simp <;> omega) _
  have A0 := Lib.hid q0
  have B0 := Lib.hid q1
  have R0 := Lib.hid q2
  have L0 := Lib.hid qL
  clear qL q0 q1 q2
  go_enter Tryz.func33, Tryz.ntmps33
  go_wp2_with fail
  try simp only [Nat.add_assoc, Nat.reduceAdd]
  generalize (((w.alloc (.cells #[.string a1, .string a2] 23)).alloc (.cells #[.string b1, .string b2] 23)).alloc (.cells #[.string ⟨#[]⟩, .string ⟨#[]⟩] 23)) = w0 at *
  obtain ⟨a00, a01, a0f, a0g, a0l⟩ := blk2 A0.out
  obtain ⟨b00, b01, b0f, b0g, b0l⟩ := blk2 B0.out
  obtain ⟨r00, r01, r0f, r0g, r0l⟩ := blk2 R0.out
  refine (VA.out _).mono ?_
  rintro e w1 ⟨rfl, hb1⟩
  have A1 := Lib.hid (Blk.below A0.out hb1 A0.out.lt)
  have B1 := Lib.hid (Blk.below B0.out hb1 B0.out.lt)
  have R1 := Lib.hid (Blk.below R0.out hb1 R0.out.lt)
  have L1 := Lib.hid (L0.out.trans (hb1.mono L0.out.size))
  clear hb1
  obtain ⟨a10, a11, a1f, a1g, a1l⟩ := blk2 A1.out
  obtain ⟨b10, b11, b1f, b1g, b1l⟩ := blk2 B1.out
  obtain ⟨r10, r11, r1f, r1g, r1l⟩ := blk2 R1.out
  go_wp2_with fail
  refine (VB.out _).mono ?_
  rintro e w2 ⟨rfl, hb2⟩
  have A2 := Lib.hid (Blk.below A1.out hb2 A1.out.lt)
  have B2 := Lib.hid (Blk.below B1.out hb2 B1.out.lt)
  have R2 := Lib.hid (Blk.below R1.out hb2 R1.out.lt)
  have L2 := Lib.hid (L1.out.trans (hb2.mono L1.out.size))
  clear hb2
  obtain ⟨a20, a21, a2f, a2g, a2l⟩ := blk2 A2.out
  obtain ⟨b20, b21, b2f, b2g, b2l⟩ := blk2 B2.out
  obtain ⟨r20, r21, r2f, r2g, r2l⟩ := blk2 R2.out
  go_wp2_with fail
  refine (M1.out _).mono ?_
  rintro e w3 ⟨rfl, hb3⟩
  have A3 := Lib.hid (Blk.below A2.out hb3 A2.out.lt)
  have B3 := Lib.hid (Blk.below B2.out hb3 B2.out.lt)
  have R3 := Lib.hid (Blk.below R2.out hb3 R2.out.lt)
  have L3 := Lib.hid (L2.out.trans (hb3.mono L2.out.size))
  clear hb3
  obtain ⟨a30, a31, a3f, a3g, a3l⟩ := blk2 A3.out
  obtain ⟨b30, b31, b3f, b3g, b3l⟩ := blk2 B3.out
  obtain ⟨r30, r31, r3f, r3g, r3l⟩ := blk2 R3.out
  go_wp2_with fail
  refine (M2.out _).mono ?_
  rintro e w4 ⟨rfl, hb4⟩
  have A4 := Lib.hid (Blk.below A3.out hb4 A3.out.lt)
  have B4 := Lib.hid (Blk.below B3.out hb4 B3.out.lt)
  have R4 := Lib.hid (Blk.below R3.out hb4 R3.out.lt)
  have L4 := Lib.hid (L3.out.trans (hb4.mono L3.out.size))
  clear hb4
  obtain ⟨a40, a41, a4f, a4g, a4l⟩ := blk2 A4.out
  obtain ⟨b40, b41, b4f, b4g, b4l⟩ := blk2 B4.out
  obtain ⟨r40, r41, r4f, r4g, r4l⟩ := blk2 R4.out
  go_wp2
  refine bodyPost_ret (v := vRE (noR, 40)) (by simp [results, Tryz.results33, go_sem, noR, r40, r41, r4f, r4g, r4l]; rfl) rfl ⟨rfl, ?_⟩
  exact (L4.out.setCell (by simp) _).setCell (by simp) _
set_option maxRecDepth 100000 in
set_option maxHeartbeats 1000000 in
theorem ref4Div_tt (a1 a2 b1 b2 : ByteArray) (hva : rV (a1, a2) = true) (hvb : rV (b1, b2) = true) (v1 : vS a1 = true) (v2 : vS b2 = true) (v3 : vS a2 = true) (v4 : vS b1 = true) (h1 : small (nS a1 * nS b2) = true) (h2 : small (nS a2 * nS b1) = true) (w : World) (ha : Sz (a1, a2)) (hb : Sz (b1, b2)) :
    Calls Tryz.prog 33 #[.agg #[.string a1, .string a2], .agg #[.string b1, .string b2]] w (RatPost (rMk (nS a1 * nS b2) (nS a2 * nS b1)) w) := by
  have VA := Lib.hid (fun w => ref4Valid_is hva w ha)
  have VB := Lib.hid (fun w => ref4Valid_is hvb w hb)
  have M1 := Lib.hid (fun w => refMul_any a1 b2 w ha.1 hb.2)
  have M2 := Lib.hid (fun w => refMul_any a2 b1 w ha.2 hb.1)
  rw [iMul_val v1 v2 h1] at M1
  rw [iMul_val v3 v4 h2] at M2
  have K := Lib.hid (fun w => ref4Make_any (ofI (nS a1 * nS b2)) (ofI (nS a2 * nS b1)) w (size_vS (vS_small h1)) (size_vS (vS_small h2)))
  rw [rMake_ofI] at K
  generalize rMk (nS a1 * nS b2) (nS a2 * nS b1) = r at *
  generalize ofI (nS a1 * nS b2) = x1 at *
  generalize ofI (nS a2 * nS b1) = x2 at *
  clear hva hvb ha hb v1 v2 v3 v4 h1 h2
  have q0 : Blk (((w.alloc (.cells #[.string a1, .string a2] 23)).alloc (.cells #[.string b1, .string b2] 23)).alloc (.cells #[.string ⟨#[]⟩, .string ⟨#[]⟩] 23)) (w.heap.size) #[.string a1, .string a2] 23 := ((Blk.new w _ _).alloc _).alloc _
  have q1 : Blk (((w.alloc (.cells #[.string a1, .string a2] 23)).alloc (.cells #[.string b1, .string b2] 23)).alloc (.cells #[.string ⟨#[]⟩, .string ⟨#[]⟩] 23)) (w.heap.size + 1) #[.string b1, .string b2] 23 := (Blk.newAt _ _ _ (by simp)).alloc _
  have q2 : Blk (((w.alloc (.cells #[.string a1, .string a2] 23)).alloc (.cells #[.string b1, .string b2] 23)).alloc (.cells #[.string ⟨#[]⟩, .string ⟨#[]⟩] 23)) (w.heap.size + 2) #[.string ⟨#[]⟩, .string ⟨#[]⟩] 23 := Blk.newAt _ _ _ (by simp)
  have qL : Below w.heap.size w (((w.alloc (.cells #[.string a1, .string a2] 23)).alloc (.cells #[.string b1, .string b2] 23)).alloc (.cells #[.string ⟨#[]⟩, .string ⟨#[]⟩] 23)) := (((Below.refl _ w).alloc (Nat.le_refl _) _).alloc (by simp <;> omega) _).alloc (by simp <;> omega) _
  have A0 := Lib.hid q0
  have B0 := Lib.hid q1
  have R0 := Lib.hid q2
  have L0 := Lib.hid qL
  clear qL q0 q1 q2
  go_enter Tryz.func33, Tryz.ntmps33
  go_wp2_with fail
  try simp only [Nat.add_assoc, Nat.reduceAdd]
  generalize (((w.alloc (.cells #[.string a1, .string a2] 23)).alloc (.cells #[.string b1, .string b2] 23)).alloc (.cells #[.string ⟨#[]⟩, .string ⟨#[]⟩] 23)) = w0 at *
  obtain ⟨a00, a01, a0f, a0g, a0l⟩ := blk2 A0.out
  obtain ⟨b00, b01, b0f, b0g, b0l⟩ := blk2 B0.out
  obtain ⟨r00, r01, r0f, r0g, r0l⟩ := blk2 R0.out
  refine (VA.out _).mono ?_
  rintro e w1 ⟨rfl, hb1⟩
  have A1 := Lib.hid (Blk.below A0.out hb1 A0.out.lt)
  have B1 := Lib.hid (Blk.below B0.out hb1 B0.out.lt)
  have R1 := Lib.hid (Blk.below R0.out hb1 R0.out.lt)
  have L1 := Lib.hid (L0.out.trans (hb1.mono L0.out.size))
  clear hb1
  obtain ⟨a10, a11, a1f, a1g, a1l⟩ := blk2 A1.out
  obtain ⟨b10, b11, b1f, b1g, b1l⟩ := blk2 B1.out
  obtain ⟨r10, r11, r1f, r1g, r1l⟩ := blk2 R1.out
  go_wp2_with fail
  refine (VB.out _).mono ?_
  rintro e w2 ⟨rfl, hb2⟩
  have A2 := Lib.hid (Blk.below A1.out hb2 A1.out.lt)
  have B2 := Lib.hid (Blk.below B1.out hb2 B1.out.lt)
  have R2 := Lib.hid (Blk.below R1.out hb2 R1.out.lt)
  have L2 := Lib.hid (L1.out.trans (hb2.mono L1.out.size))
  clear hb2
  obtain ⟨a20, a21, a2f, a2g, a2l⟩ := blk2 A2.out
  obtain ⟨b20, b21, b2f, b2g, b2l⟩ := blk2 B2.out
  obtain ⟨r20, r21, r2f, r2g, r2l⟩ := blk2 R2.out
  go_wp2_with fail
  refine (M1.out _).mono ?_
  rintro e w3 ⟨rfl, hb3⟩
  have A3 := Lib.hid (Blk.below A2.out hb3 A2.out.lt)
  have B3 := Lib.hid (Blk.below B2.out hb3 B2.out.lt)
  have R3 := Lib.hid (Blk.below R2.out hb3 R2.out.lt)
  have L3 := Lib.hid (L2.out.trans (hb3.mono L2.out.size))
  clear hb3
  obtain ⟨a30, a31, a3f, a3g, a3l⟩ := blk2 A3.out
  obtain ⟨b30, b31, b3f, b3g, b3l⟩ := blk2 B3.out
  obtain ⟨r30, r31, r3f, r3g, r3l⟩ := blk2 R3.out
  go_wp2_with fail
  refine (M2.out _).mono ?_
  rintro e w4 ⟨rfl, hb4⟩
  have A4 := Lib.hid (Blk.below A3.out hb4 A3.out.lt)
  have B4 := Lib.hid (Blk.below B3.out hb4 B3.out.lt)
  have R4 := Lib.hid (Blk.below R3.out hb4 R3.out.lt)
  have L4 := Lib.hid (L3.out.trans (hb4.mono L3.out.size))
  clear hb4
  obtain ⟨a40, a41, a4f, a4g, a4l⟩ := blk2 A4.out
  obtain ⟨b40, b41, b4f, b4g, b4l⟩ := blk2 B4.out
  obtain ⟨r40, r41, r4f, r4g, r4l⟩ := blk2 R4.out
  go_wp2_with fail
  refine (K.out _).mono ?_
  rintro e w5 ⟨rfl, hb5⟩
  have A5 := Lib.hid (Blk.below A4.out hb5 A4.out.lt)
  have B5 := Lib.hid (Blk.below B4.out hb5 B4.out.lt)
  have R5 := Lib.hid (Blk.below R4.out hb5 R4.out.lt)
  have L5 := Lib.hid (L4.out.trans (hb5.mono L4.out.size))
  clear hb5
  obtain ⟨a50, a51, a5f, a5g, a5l⟩ := blk2 A5.out
  obtain ⟨b50, b51, b5f, b5g, b5l⟩ := blk2 B5.out
  obtain ⟨r50, r51, r5f, r5g, r5l⟩ := blk2 R5.out
  obtain ⟨⟨q1, q2⟩, q3⟩ := r
  go_wp2
  refine bodyPost_ret (v := vRE ((q1, q2), q3)) (by simp [results, Tryz.results33, go_sem, r50, r51, r5f, r5g, r5l]) rfl ⟨rfl, ?_⟩
  exact (L5.out.setCell (by simp) _).setCell (by simp) _
theorem ref4Div_any (a b : RS) (w : World) (ha : Sz a) (hb : Sz b) : Calls Tryz.prog 33 #[vR a, vR b] w (RatPost (rDiv a b) w) := by
  obtain ⟨a1, a2⟩ := a
  obtain ⟨b1, b2⟩ := b
  show Calls _ _ #[.agg #[.string a1, .string a2], .agg #[.string b1, .string b2]] _ _
  unfold rDiv
  cases hva : rV (a1, a2) with
  | false => rw [if_neg (by simp)]; exact ref4Div_no1 a1 a2 b1 b2 hva _ rfl w ha hb
  | true =>
    cases hvb : rV (b1, b2) with
    | false => rw [if_neg (by simp)]; exact ref4Div_no2 a1 a2 b1 b2 hva hvb w ha hb
    | true =>
      rw [if_pos (by simp)]
      obtain ⟨p1, p2, _, _⟩ := rV_parts hva
      obtain ⟨p3, p4, _, _⟩ := rV_parts hvb
      cases h1 : small (nS a1 * nS b2) with
      | false => rw [rMk_no (by simp [h1])]; exact ref4Div_f a1 a2 b1 b2 hva hvb (by assumption) (by assumption) (by assumption) (by assumption) h1 w ha hb
      | true =>
        cases h2 : small (nS a2 * nS b1) with
        | false => rw [rMk_no (by simp [h2])]; exact ref4Div_tf a1 a2 b1 b2 hva hvb (by assumption) (by assumption) (by assumption) (by assumption) h1 h2 w ha hb
        | true => exact ref4Div_tt a1 a2 b1 b2 hva hvb (by assumption) (by assumption) (by assumption) (by assumption) h1 h2 w ha hb
end Go.Proofs.YtgeoidnleagloaaGreatDoor
