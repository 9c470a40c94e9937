/- Walks of package rational: the four operations. -/
import Derived.Test.YtgeoidnleagloaaGreatDoorQD
import Derived.Deep.RegionHeld3
set_option linter.unusedVariables false
set_option linter.unusedSimpArgs false
namespace Go.Proofs.YtgeoidnleagloaaGreatDoor
open Go.RowKit Yk

theorem rdR2 {w : World} {sb : Nat} {t : TypeId} {a1 a2 b1 b2 : ByteArray} (h : Blk w sb #[.string a1, .string a2, .string b1, .string b2] t) : RdR w sb [(a1, a2), (b1, b2)] := by
  refine ⟨h.lt, fun j r hr => ?_⟩
  cases j with
  | zero => simp at hr; subst hr; exact ⟨h.cell rfl, h.cell rfl⟩
  | succ j =>
    cases j with
    | zero => simp at hr; subst hr; exact ⟨h.cell rfl, h.cell rfl⟩
    | succ j => simp at hr
theorem rdR1 {w : World} {sb : Nat} {t : TypeId} {a1 a2 : ByteArray} (h : Blk w sb #[.string a1, .string a2] t) : RdR w sb [(a1, a2)] := by
  refine ⟨h.lt, fun j r hr => ?_⟩
  cases j with
  | zero => simp at hr; subst hr; exact ⟨h.cell rfl, h.cell rfl⟩
  | succ j => simp at hr
/-- The sizes of two fractions' texts. -/
def Sz (a : RS) : Prop := a.1.size ≤ maxLen ∧ a.2.size ≤ maxLen
theorem sz2 {a b : RS} (ha : Sz a) (hb : Sz b) : ∀ r ∈ [a, b], r.1.size ≤ maxLen ∧ r.2.size ≤ maxLen := by
  intro r hr
  simp only [List.mem_cons, List.not_mem_nil, or_false] at hr
  rcases hr with rfl | rfl
  · exact ha
  · exact hb
theorem sz1 {a : RS} (ha : Sz a) : ∀ r ∈ [a], r.1.size ≤ maxLen ∧ r.2.size ≤ maxLen := by
  intro r hr
  simp only [List.mem_cons, List.not_mem_nil, or_false] at hr
  subst hr; exact ha
theorem do_true (gf : Nat) (f : ByteArray → ByteArray → SE) (x y : ByteArray) (b : Nat) (w : World) (hw : Wk w b true) :
    Calls Tryz.prog 84 #[.pointer (some ⟨b, 0, none⟩), .func (.func gf) #[] #[], .string x, .string y] w (DoPost w b (doF true (f x y))) := by
  obtain ⟨c1, c2, _⟩ := blk1 hw
  have HW := Lib.hid hw
  clear hw
  go_enter Tryz.func84, Tryz.ntmps84
  go_wp2
  go_ret
  exact ⟨rfl, HW.out, World.grownBy.refl _ _⟩
theorem vS_quo {n d : ByteArray} (hn : vS n = true) (hd : vS d = true) (h0 : 0 < nS d) : vS (ofI (nS n / nS d)) = true ∧ vS (ofI (nS n % nS d)) = true := by
  have e1 := nS_sgn n
  have e2 := nS_sgn d
  refine ⟨vS_ofI ?_, vS_ofI ?_⟩
  · rw [e1, e2]; exact div_small (by omega) (nS_lt hn) _ _
  · rw [e1, e2]; exact mod_small (by omega) (nS_lt hd) _ _
theorem sz_doF {f : ByteArray → ByteArray → SE} (hf : OkF f) {bad : Bool} {x y : ByteArray} {r : ByteArray × Bool} (h : doF bad (f x y) = r) (hr : r.2 = false) : r.1.size ≤ maxLen := by
  subst h; exact size_vS (doF_vS hf hr).2
set_option maxRecDepth 100000 in
set_option maxHeartbeats 1000000 in
theorem ratMul_any (a b : RS) (w : World) (hg : Glob w) (ha : Sz a) (hb : Sz b) : Calls Tryz.prog 25 #[vR a, vR b] w (RatPost (rMul a b) w) := by
  obtain ⟨a1, a2⟩ := a
  obtain ⟨b1, b2⟩ := b
  rw [← prod_mul]
  show Calls _ _ #[.agg #[.string a1, .string a2], .agg #[.string b1, .string b2]] _ _
  simp only [prodF]
  have Hg := Lib.hid hg
  have Hz := Lib.hid (And.intro ha hb)
  have HV : Hid (prod3 (a1, a2) (b1, b2) a1 b1 a2 b2 = doF (prod2 (a1, a2) (b1, b2) a1 b1).2 (iMul a2 b2)) := rfl
  have HV2 : Hid (prod2 (a1, a2) (b1, b2) a1 b1 = doF ([(a1, a2), (b1, b2)].any fun r => !rV r) (iMul a1 b1)) := rfl
  have HK : Hid ((prod3 (a1, a2) (b1, b2) a1 b1 a2 b2).2 = false → vS (prod2 (a1, a2) (b1, b2) a1 b1).1 = true ∧ vS (prod3 (a1, a2) (b1, b2) a1 b1 a2 b2).1 = true) := by
    refine Lib.hid fun h => ?_
    have h1 := doF_vS okMul (show (doF (prod2 (a1, a2) (b1, b2) a1 b1).2 (iMul a2 b2)).2 = false from h)
    exact ⟨(doF_vS okMul (show (doF ([(a1, a2), (b1, b2)].any fun r => !rV r) (iMul a1 b1)).2 = false from h1.1)).2, h1.2⟩
  generalize prod3 (a1, a2) (b1, b2) a1 b1 a2 b2 = p3 at *
  generalize prod2 (a1, a2) (b1, b2) a1 b1 = p2 at *
  generalize hbd : ([(a1, a2), (b1, b2)].any fun r => !rV r) = bd at *
  have Hbd := Lib.hid hbd
  clear hbd
  obtain ⟨x2, bd2⟩ := p2
  obtain ⟨x3, bd3⟩ := p3
  clear hg ha hb
  have q0 : Blk (((((w.alloc (.cells #[.string a1, .string a2] 23)).alloc (.cells #[.string b1, .string b2] 23)).alloc (.cells #[.string ⟨#[]⟩, .string ⟨#[]⟩] 23)).alloc (.cells #[.bool false] 78)).alloc (.cells #[.string a1, .string a2, .string b1, .string b2] 23)) w.heap.size #[.string a1, .string a2] 23 := ((((Blk.new w _ _).alloc _).alloc _).alloc _).alloc _
  have q1 : Blk (((((w.alloc (.cells #[.string a1, .string a2] 23)).alloc (.cells #[.string b1, .string b2] 23)).alloc (.cells #[.string ⟨#[]⟩, .string ⟨#[]⟩] 23)).alloc (.cells #[.bool false] 78)).alloc (.cells #[.string a1, .string a2, .string b1, .string b2] 23)) (w.heap.size + 1) #[.string b1, .string b2] 23 := (((Blk.newAt _ _ _ (by simp)).alloc _).alloc _).alloc _
  have q2 : Blk (((((w.alloc (.cells #[.string a1, .string a2] 23)).alloc (.cells #[.string b1, .string b2] 23)).alloc (.cells #[.string ⟨#[]⟩, .string ⟨#[]⟩] 23)).alloc (.cells #[.bool false] 78)).alloc (.cells #[.string a1, .string a2, .string b1, .string b2] 23)) (w.heap.size + 2) #[.string ⟨#[]⟩, .string ⟨#[]⟩] 23 := ((Blk.newAt _ _ _ (by simp)).alloc _).alloc _
  have q3 : Wk (((((w.alloc (.cells #[.string a1, .string a2] 23)).alloc (.cells #[.string b1, .string b2] 23)).alloc (.cells #[.string ⟨#[]⟩, .string ⟨#[]⟩] 23)).alloc (.cells #[.bool false] 78)).alloc (.cells #[.string a1, .string a2, .string b1, .string b2] 23)) (w.heap.size + 3) false := (Blk.newAt _ _ _ (by simp)).alloc _
  have q4 : Blk (((((w.alloc (.cells #[.string a1, .string a2] 23)).alloc (.cells #[.string b1, .string b2] 23)).alloc (.cells #[.string ⟨#[]⟩, .string ⟨#[]⟩] 23)).alloc (.cells #[.bool false] 78)).alloc (.cells #[.string a1, .string a2, .string b1, .string b2] 23)) (w.heap.size + 4) #[.string a1, .string a2, .string b1, .string b2] 23 := Blk.newAt _ _ _ (by simp)
  have q5 : Below w.heap.size w (((((w.alloc (.cells #[.string a1, .string a2] 23)).alloc (.cells #[.string b1, .string b2] 23)).alloc (.cells #[.string ⟨#[]⟩, .string ⟨#[]⟩] 23)).alloc (.cells #[.bool false] 78)).alloc (.cells #[.string a1, .string a2, .string b1, .string b2] 23)) := (((((Below.refl _ w).alloc (Nat.le_refl _) _).alloc (by simp) _).alloc (by simp <;> omega) _).alloc (by simp <;> omega) _).alloc (by simp <;> omega) _
  have A0 := Lib.hid q0
  have B0 := Lib.hid q1
  have R0 := Lib.hid q2
  have K0 := Lib.hid q3
  have S0 := Lib.hid q4
  have L0 := Lib.hid q5
  have hA := Hg.out.above (b := w.heap.size + 3) (by omega)
  have Hb := Lib.hid hA
  clear q0 q1 q2 q3 q4 q5 hA
  go_enter Tryz.func25, Tryz.ntmps25
  go_wp2_with fail
  simp only [Nat.add_assoc, Nat.reduceAdd]
  generalize (((((w.alloc (.cells #[.string a1, .string a2] 23)).alloc (.cells #[.string b1, .string b2] 23)).alloc (.cells #[.string ⟨#[]⟩, .string ⟨#[]⟩] 23)).alloc (.cells #[.bool false] 78)).alloc (.cells #[.string a1, .string a2, .string b1, .string b2] 23)) = w0 at *
  refine (check_any [(a1, a2), (b1, b2)] (w.heap.size + 4) _ (w.heap.size + 3) false _ K0.out (rdR2 S0.out) (by omega) (by simp) (Hg.out.below L0.out) Hb.out (sz2 Hz.out.1 Hz.out.2)).mono ?_
  rw [Bool.false_or, Hbd.out]
  rintro e w1 ⟨rfl, k1, g1⟩
  have K1 := Lib.hid k1
  have A1 := Lib.hid (Blk.other A0.out g1 (by omega))
  have B1 := Lib.hid (Blk.other B0.out g1 (by omega))
  have R1 := Lib.hid (Blk.other R0.out g1 (by omega))
  have L1 := Lib.hid (L0.out.trans (below_of_grown g1 (by omega) L0.out.size))
  obtain ⟨a10, a11, _, _, _⟩ := blk2 A1.out
  obtain ⟨b10, b11, _, _, _⟩ := blk2 B1.out
  clear k1 g1
  clear S0
  go_wp2_with fail
  refine (mul_any a1 b1 (w.heap.size + 3) bd _ K1.out (fun _ => Hg.out.below L1.out) Hz.out.1.1 Hz.out.2.1).mono ?_
  rw [← HV2.out]
  rintro e w2 ⟨rfl, k2, g2⟩
  have K2 := Lib.hid k2
  have A2 := Lib.hid (Blk.other A1.out g2 (by omega))
  have B2 := Lib.hid (Blk.other B1.out g2 (by omega))
  have R2 := Lib.hid (Blk.other R1.out g2 (by omega))
  have L2 := Lib.hid (L1.out.trans (below_of_grown g2 (by omega) L1.out.size))
  obtain ⟨a20, a21, _, _, _⟩ := blk2 A2.out
  obtain ⟨b20, b21, _, _, _⟩ := blk2 B2.out
  clear k2 g2
  go_wp2_with fail
  refine (mul_any a2 b2 (w.heap.size + 3) bd2 _ K2.out (fun _ => Hg.out.below L2.out) Hz.out.1.2 Hz.out.2.2).mono ?_
  rw [← HV.out]
  rintro e w3 ⟨rfl, k3, g3⟩
  have K3 := Lib.hid k3
  have A3 := Lib.hid (Blk.other A2.out g3 (by omega))
  have B3 := Lib.hid (Blk.other B2.out g3 (by omega))
  have R3 := Lib.hid (Blk.other R2.out g3 (by omega))
  have L3 := Lib.hid (L2.out.trans (below_of_grown g3 (by omega) L2.out.size))
  obtain ⟨a30, a31, _, _, _⟩ := blk2 A3.out
  obtain ⟨b30, b31, _, _, _⟩ := blk2 B3.out
  clear k3 g3
  go_wp2_with fail
  refine (reduced_any x2 x3 (w.heap.size + 3) bd3 _ K3.out (fun h => ⟨(HK.out h).1, (HK.out h).2, Hg.out.below L3.out⟩) Hb.out).mono ?_
  rintro e w4 ⟨rfl, g4⟩
  have R4 := Lib.hid (Blk.other R3.out g4 (by omega))
  have L4 := Lib.hid (L3.out.trans (below_of_grown g4 (by omega) L3.out.size))
  clear g4
  generalize redF bd3 x2 x3 = r at *
  obtain ⟨r1, r2, r3, r4, r5⟩ := blk2 R4.out
  obtain ⟨⟨q1, q2⟩, q3⟩ := r
  go_wp2
  skip
  refine bodyPost_ret (v := vRE ((q1, q2), q3)) (by simp [results, Tryz.results25, go_sem, r1, r2, r3, r4, r5]) rfl ⟨rfl, ?_⟩
  exact (L4.out.setCell (by simp) _).setCell (by simp) _
set_option maxRecDepth 100000 in
set_option maxHeartbeats 1000000 in
theorem ratDiv_any (a b : RS) (w : World) (hg : Glob w) (ha : Sz a) (hb : Sz b) : Calls Tryz.prog 26 #[vR a, vR b] w (RatPost (rDiv a b) w) := by
  obtain ⟨a1, a2⟩ := a
  obtain ⟨b1, b2⟩ := b
  rw [← prod_div]
  show Calls _ _ #[.agg #[.string a1, .string a2], .agg #[.string b1, .string b2]] _ _
  simp only [prodF]
  have Hg := Lib.hid hg
  have Hz := Lib.hid (And.intro ha hb)
  have HV : Hid (prod3 (a1, a2) (b1, b2) a1 b2 a2 b1 = doF (prod2 (a1, a2) (b1, b2) a1 b2).2 (iMul a2 b1)) := rfl
  have HV2 : Hid (prod2 (a1, a2) (b1, b2) a1 b2 = doF ([(a1, a2), (b1, b2)].any fun r => !rV r) (iMul a1 b2)) := rfl
  have HK : Hid ((prod3 (a1, a2) (b1, b2) a1 b2 a2 b1).2 = false → vS (prod2 (a1, a2) (b1, b2) a1 b2).1 = true ∧ vS (prod3 (a1, a2) (b1, b2) a1 b2 a2 b1).1 = true) := by
    refine Lib.hid fun h => ?_
    have h1 := doF_vS okMul (show (doF (prod2 (a1, a2) (b1, b2) a1 b2).2 (iMul a2 b1)).2 = false from h)
    exact ⟨(doF_vS okMul (show (doF ([(a1, a2), (b1, b2)].any fun r => !rV r) (iMul a1 b2)).2 = false from h1.1)).2, h1.2⟩
  generalize prod3 (a1, a2) (b1, b2) a1 b2 a2 b1 = p3 at *
  generalize prod2 (a1, a2) (b1, b2) a1 b2 = p2 at *
  generalize hbd : ([(a1, a2), (b1, b2)].any fun r => !rV r) = bd at *
  have Hbd := Lib.hid hbd
  clear hbd
  obtain ⟨x2, bd2⟩ := p2
  obtain ⟨x3, bd3⟩ := p3
  clear hg ha hb
  have q0 : Blk (((((w.alloc (.cells #[.string a1, .string a2] 23)).alloc (.cells #[.string b1, .string b2] 23)).alloc (.cells #[.string ⟨#[]⟩, .string ⟨#[]⟩] 23)).alloc (.cells #[.bool false] 78)).alloc (.cells #[.string a1, .string a2, .string b1, .string b2] 23)) w.heap.size #[.string a1, .string a2] 23 := ((((Blk.new w _ _).alloc _).alloc _).alloc _).alloc _
  have q1 : Blk (((((w.alloc (.cells #[.string a1, .string a2] 23)).alloc (.cells #[.string b1, .string b2] 23)).alloc (.cells #[.string ⟨#[]⟩, .string ⟨#[]⟩] 23)).alloc (.cells #[.bool false] 78)).alloc (.cells #[.string a1, .string a2, .string b1, .string b2] 23)) (w.heap.size + 1) #[.string b1, .string b2] 23 := (((Blk.newAt _ _ _ (by simp)).alloc _).alloc _).alloc _
  have q2 : Blk (((((w.alloc (.cells #[.string a1, .string a2] 23)).alloc (.cells #[.string b1, .string b2] 23)).alloc (.cells #[.string ⟨#[]⟩, .string ⟨#[]⟩] 23)).alloc (.cells #[.bool false] 78)).alloc (.cells #[.string a1, .string a2, .string b1, .string b2] 23)) (w.heap.size + 2) #[.string ⟨#[]⟩, .string ⟨#[]⟩] 23 := ((Blk.newAt _ _ _ (by simp)).alloc _).alloc _
  have q3 : Wk (((((w.alloc (.cells #[.string a1, .string a2] 23)).alloc (.cells #[.string b1, .string b2] 23)).alloc (.cells #[.string ⟨#[]⟩, .string ⟨#[]⟩] 23)).alloc (.cells #[.bool false] 78)).alloc (.cells #[.string a1, .string a2, .string b1, .string b2] 23)) (w.heap.size + 3) false := (Blk.newAt _ _ _ (by simp)).alloc _
  have q4 : Blk (((((w.alloc (.cells #[.string a1, .string a2] 23)).alloc (.cells #[.string b1, .string b2] 23)).alloc (.cells #[.string ⟨#[]⟩, .string ⟨#[]⟩] 23)).alloc (.cells #[.bool false] 78)).alloc (.cells #[.string a1, .string a2, .string b1, .string b2] 23)) (w.heap.size + 4) #[.string a1, .string a2, .string b1, .string b2] 23 := Blk.newAt _ _ _ (by simp)
  have q5 : Below w.heap.size w (((((w.alloc (.cells #[.string a1, .string a2] 23)).alloc (.cells #[.string b1, .string b2] 23)).alloc (.cells #[.string ⟨#[]⟩, .string ⟨#[]⟩] 23)).alloc (.cells #[.bool false] 78)).alloc (.cells #[.string a1, .string a2, .string b1, .string b2] 23)) := (((((Below.refl _ w).alloc (Nat.le_refl _) _).alloc (by simp) _).alloc (by simp <;> omega) _).alloc (by simp <;> omega) _).alloc (by simp <;> omega) _
  have A0 := Lib.hid q0
  have B0 := Lib.hid q1
  have R0 := Lib.hid q2
  have K0 := Lib.hid q3
  have S0 := Lib.hid q4
  have L0 := Lib.hid q5
  have hA := Hg.out.above (b := w.heap.size + 3) (by omega)
  have Hb := Lib.hid hA
  clear q0 q1 q2 q3 q4 q5 hA
  go_enter Tryz.func26, Tryz.ntmps26
  go_wp2_with fail
  simp only [Nat.add_assoc, Nat.reduceAdd]
  generalize (((((w.alloc (.cells #[.string a1, .string a2] 23)).alloc (.cells #[.string b1, .string b2] 23)).alloc (.cells #[.string ⟨#[]⟩, .string ⟨#[]⟩] 23)).alloc (.cells #[.bool false] 78)).alloc (.cells #[.string a1, .string a2, .string b1, .string b2] 23)) = w0 at *
  refine (check_any [(a1, a2), (b1, b2)] (w.heap.size + 4) _ (w.heap.size + 3) false _ K0.out (rdR2 S0.out) (by omega) (by simp) (Hg.out.below L0.out) Hb.out (sz2 Hz.out.1 Hz.out.2)).mono ?_
  rw [Bool.false_or, Hbd.out]
  rintro e w1 ⟨rfl, k1, g1⟩
  have K1 := Lib.hid k1
  have A1 := Lib.hid (Blk.other A0.out g1 (by omega))
  have B1 := Lib.hid (Blk.other B0.out g1 (by omega))
  have R1 := Lib.hid (Blk.other R0.out g1 (by omega))
  have L1 := Lib.hid (L0.out.trans (below_of_grown g1 (by omega) L0.out.size))
  obtain ⟨a10, a11, _, _, _⟩ := blk2 A1.out
  obtain ⟨b10, b11, _, _, _⟩ := blk2 B1.out
  clear k1 g1
  clear S0
  go_wp2_with fail
  refine (mul_any a1 b2 (w.heap.size + 3) bd _ K1.out (fun _ => Hg.out.below L1.out) Hz.out.1.1 Hz.out.2.2).mono ?_
  rw [← HV2.out]
  rintro e w2 ⟨rfl, k2, g2⟩
  have K2 := Lib.hid k2
  have A2 := Lib.hid (Blk.other A1.out g2 (by omega))
  have B2 := Lib.hid (Blk.other B1.out g2 (by omega))
  have R2 := Lib.hid (Blk.other R1.out g2 (by omega))
  have L2 := Lib.hid (L1.out.trans (below_of_grown g2 (by omega) L1.out.size))
  obtain ⟨a20, a21, _, _, _⟩ := blk2 A2.out
  obtain ⟨b20, b21, _, _, _⟩ := blk2 B2.out
  clear k2 g2
  go_wp2_with fail
  refine (mul_any a2 b1 (w.heap.size + 3) bd2 _ K2.out (fun _ => Hg.out.below L2.out) Hz.out.1.2 Hz.out.2.1).mono ?_
  rw [← HV.out]
  rintro e w3 ⟨rfl, k3, g3⟩
  have K3 := Lib.hid k3
  have A3 := Lib.hid (Blk.other A2.out g3 (by omega))
  have B3 := Lib.hid (Blk.other B2.out g3 (by omega))
  have R3 := Lib.hid (Blk.other R2.out g3 (by omega))
  have L3 := Lib.hid (L2.out.trans (below_of_grown g3 (by omega) L2.out.size))
  obtain ⟨a30, a31, _, _, _⟩ := blk2 A3.out
  obtain ⟨b30, b31, _, _, _⟩ := blk2 B3.out
  clear k3 g3
  go_wp2_with fail
  refine (reduced_any x2 x3 (w.heap.size + 3) bd3 _ K3.out (fun h => ⟨(HK.out h).1, (HK.out h).2, Hg.out.below L3.out⟩) Hb.out).mono ?_
  rintro e w4 ⟨rfl, g4⟩
  have R4 := Lib.hid (Blk.other R3.out g4 (by omega))
  have L4 := Lib.hid (L3.out.trans (below_of_grown g4 (by omega) L3.out.size))
  clear g4
  generalize redF bd3 x2 x3 = r at *
  obtain ⟨r1, r2, r3, r4, r5⟩ := blk2 R4.out
  obtain ⟨⟨q1, q2⟩, q3⟩ := r
  go_wp2
  skip
  refine bodyPost_ret (v := vRE ((q1, q2), q3)) (by simp [results, Tryz.results26, go_sem, r1, r2, r3, r4, r5]) rfl ⟨rfl, ?_⟩
  exact (L4.out.setCell (by simp) _).setCell (by simp) _
set_option maxRecDepth 100000 in
set_option maxHeartbeats 2000000 in
theorem ratSum_any (gf : Nat) (f : ByteArray → ByteArray → SE) (hop : OpF gf f) (hok : OkF f) (a b : RS) (w : World) (hg : Glob w) (ha : Sz a) (hb : Sz b) : Calls Tryz.prog 61 #[.func (.func gf) #[] #[], vR a, vR b] w (RatPost (sumF f a b) w) := by
  obtain ⟨a1, a2⟩ := a
  obtain ⟨b1, b2⟩ := b
  show Calls _ _ #[_, .agg #[.string a1, .string a2], .agg #[.string b1, .string b2]] _ _
  simp only [sumF]
  have Hg := Lib.hid hg
  have Hop := Lib.hid hop
  have Hz := Lib.hid (And.intro ha hb)
  have V2 : Hid (sum2 (a1, a2) (b1, b2) = doF ([(a1, a2), (b1, b2)].any fun r => !rV r) (iMul a1 b2)) := rfl
  have V3 : Hid (sum3 (a1, a2) (b1, b2) = doF (sum2 (a1, a2) (b1, b2)).2 (iMul b1 a2)) := rfl
  have V4 : Hid (sum4 f (a1, a2) (b1, b2) = doF (sum3 (a1, a2) (b1, b2)).2 (f (sum2 (a1, a2) (b1, b2)).1 (sum3 (a1, a2) (b1, b2)).1)) := rfl
  have V5 : Hid (sum5 f (a1, a2) (b1, b2) = doF (sum4 f (a1, a2) (b1, b2)).2 (iMul a2 b2)) := rfl
  generalize sum5 f (a1, a2) (b1, b2) = p5 at *
  generalize sum4 f (a1, a2) (b1, b2) = p4 at *
  generalize sum3 (a1, a2) (b1, b2) = p3 at *
  generalize sum2 (a1, a2) (b1, b2) = p2 at *
  generalize hbd : ([(a1, a2), (b1, b2)].any fun r => !rV r) = bd at *
  have Hbd := Lib.hid hbd
  clear hbd
  obtain ⟨x2, d2⟩ := p2
  obtain ⟨x3, d3⟩ := p3
  obtain ⟨x4, d4⟩ := p4
  obtain ⟨x5, d5⟩ := p5
  have HK : Hid (d5 = false → vS x4 = true ∧ vS x5 = true) := by
    refine Lib.hid fun h => ?_
    have h5 := doF_vS okMul (show (doF d4 (iMul a2 b2)).2 = false by have := V5.out; simp only at this; rw [← this]; exact h)
    have h4 := doF_vS hok (show (doF d3 (f x2 x3)).2 = false by have := V4.out; simp only at this; rw [← this]; exact h5.1)
    have e4 := V4.out; have e5 := V5.out
    simp only at e4 e5
    rw [← e5] at h5; rw [← e4] at h4
    exact ⟨h4.2, h5.2⟩
  have HZ : Hid (d3 = false → x2.size ≤ maxLen ∧ x3.size ≤ maxLen) := by
    refine Lib.hid fun h => ?_
    have h3 := doF_vS okMul (show (doF d2 (iMul b1 a2)).2 = false by have := V3.out; simp only at this; rw [← this]; exact h)
    have h2 := doF_vS okMul (show (doF bd (iMul a1 b2)).2 = false by have := V2.out; rw [← this]; exact h3.1)
    have e3 := V3.out; have e2 := V2.out
    simp only at e3
    rw [← e3] at h3; rw [← e2] at h2
    exact ⟨size_vS h2.2, size_vS h3.2⟩
  clear hg ha hb hop hok
  have q0 : Blk (((((w.alloc (.cells #[.string a1, .string a2] 23)).alloc (.cells #[.string b1, .string b2] 23)).alloc (.cells #[.string ⟨#[]⟩, .string ⟨#[]⟩] 23)).alloc (.cells #[.bool false] 78)).alloc (.cells #[.string a1, .string a2, .string b1, .string b2] 23)) w.heap.size #[.string a1, .string a2] 23 := ((((Blk.new w _ _).alloc _).alloc _).alloc _).alloc _
  have q1 : Blk (((((w.alloc (.cells #[.string a1, .string a2] 23)).alloc (.cells #[.string b1, .string b2] 23)).alloc (.cells #[.string ⟨#[]⟩, .string ⟨#[]⟩] 23)).alloc (.cells #[.bool false] 78)).alloc (.cells #[.string a1, .string a2, .string b1, .string b2] 23)) (w.heap.size + 1) #[.string b1, .string b2] 23 := (((Blk.newAt _ _ _ (by simp)).alloc _).alloc _).alloc _
  have q2 : Blk (((((w.alloc (.cells #[.string a1, .string a2] 23)).alloc (.cells #[.string b1, .string b2] 23)).alloc (.cells #[.string ⟨#[]⟩, .string ⟨#[]⟩] 23)).alloc (.cells #[.bool false] 78)).alloc (.cells #[.string a1, .string a2, .string b1, .string b2] 23)) (w.heap.size + 2) #[.string ⟨#[]⟩, .string ⟨#[]⟩] 23 := ((Blk.newAt _ _ _ (by simp)).alloc _).alloc _
  have q3 : Wk (((((w.alloc (.cells #[.string a1, .string a2] 23)).alloc (.cells #[.string b1, .string b2] 23)).alloc (.cells #[.string ⟨#[]⟩, .string ⟨#[]⟩] 23)).alloc (.cells #[.bool false] 78)).alloc (.cells #[.string a1, .string a2, .string b1, .string b2] 23)) (w.heap.size + 3) false := (Blk.newAt _ _ _ (by simp)).alloc _
  have q4 : Blk (((((w.alloc (.cells #[.string a1, .string a2] 23)).alloc (.cells #[.string b1, .string b2] 23)).alloc (.cells #[.string ⟨#[]⟩, .string ⟨#[]⟩] 23)).alloc (.cells #[.bool false] 78)).alloc (.cells #[.string a1, .string a2, .string b1, .string b2] 23)) (w.heap.size + 4) #[.string a1, .string a2, .string b1, .string b2] 23 := Blk.newAt _ _ _ (by simp)
  have q5 : Below w.heap.size w (((((w.alloc (.cells #[.string a1, .string a2] 23)).alloc (.cells #[.string b1, .string b2] 23)).alloc (.cells #[.string ⟨#[]⟩, .string ⟨#[]⟩] 23)).alloc (.cells #[.bool false] 78)).alloc (.cells #[.string a1, .string a2, .string b1, .string b2] 23)) := (((((Below.refl _ w).alloc (Nat.le_refl _) _).alloc (by simp) _).alloc (by simp <;> omega) _).alloc (by simp <;> omega) _).alloc (by simp <;> omega) _
  have A0 := Lib.hid q0
  have B0 := Lib.hid q1
  have R0 := Lib.hid q2
  have K0 := Lib.hid q3
  have S0 := Lib.hid q4
  have L0 := Lib.hid q5
  have hA := Hg.out.above (b := w.heap.size + 3) (by omega)
  have Hb := Lib.hid hA
  clear q0 q1 q2 q3 q4 q5 hA
  go_enter Tryz.func61, Tryz.ntmps61
  go_wp2_with fail
  simp only [Nat.add_assoc, Nat.reduceAdd]
  generalize (((((w.alloc (.cells #[.string a1, .string a2] 23)).alloc (.cells #[.string b1, .string b2] 23)).alloc (.cells #[.string ⟨#[]⟩, .string ⟨#[]⟩] 23)).alloc (.cells #[.bool false] 78)).alloc (.cells #[.string a1, .string a2, .string b1, .string b2] 23)) = w0 at *
  refine (check_any [(a1, a2), (b1, b2)] (w.heap.size + 4) _ (w.heap.size + 3) false _ K0.out (rdR2 S0.out) (by omega) (by simp) (Hg.out.below L0.out) Hb.out (sz2 Hz.out.1 Hz.out.2)).mono ?_
  rw [Bool.false_or, Hbd.out]
  rintro e w1 ⟨rfl, k1, g1⟩
  have K1 := Lib.hid k1
  have A1 := Lib.hid (Blk.other A0.out g1 (by omega))
  have B1 := Lib.hid (Blk.other B0.out g1 (by omega))
  have R1 := Lib.hid (Blk.other R0.out g1 (by omega))
  have L1 := Lib.hid (L0.out.trans (below_of_grown g1 (by omega) L0.out.size))
  obtain ⟨a10, a11, _, _, _⟩ := blk2 A1.out
  obtain ⟨b10, b11, _, _, _⟩ := blk2 B1.out
  clear k1 g1
  clear S0
  have hmx : Tryz.prog.follows .mixedOrders = true := by kernel_rfl
  have eg := Hop.out.1
  have M1 : Hid (∀ W, Wk W (w.heap.size + 3) bd → Glob W → Calls Tryz.prog 60 #[.pointer (some ⟨w.heap.size + 3, 0, none⟩), .string a1, .string b2] W (DoPost W (w.heap.size + 3) (x2, d2))) := Lib.hid fun W hk hg => by rw [V2.out]; exact mul_any a1 b2 _ bd W hk (fun _ => hg) Hz.out.1.1 Hz.out.2.2
  have M2 : Hid (∀ W, Wk W (w.heap.size + 3) d2 → Glob W → Calls Tryz.prog 60 #[.pointer (some ⟨w.heap.size + 3, 0, none⟩), .string b1, .string a2] W (DoPost W (w.heap.size + 3) (x3, d3))) := Lib.hid fun W hk hg => by rw [V3.out]; exact mul_any b1 a2 _ d2 W hk (fun _ => hg) Hz.out.2.1 Hz.out.1.2
  have M3 : Hid (∀ W, Wk W (w.heap.size + 3) d3 → Glob W → Calls Tryz.prog 84 #[.pointer (some ⟨w.heap.size + 3, 0, none⟩), .func (.func gf) #[] #[], .string x2, .string x3] W (DoPost W (w.heap.size + 3) (x4, d4))) := Lib.hid fun W hk hg => by
    rw [V4.out]
    cases d3 with
    | false => exact do_any gf f Hop.out x2 x3 _ false W hk (fun _ => hg) (HZ.out rfl).1 (HZ.out rfl).2
    | true => exact do_true gf f x2 x3 _ W hk
  have K1d : Hid (Wk w1.drew (w.heap.size + 3) bd) := Lib.hid K1.out
  have A1d : Hid (Blk w1.drew w.heap.size #[.string a1, .string a2] 23) := Lib.hid A1.out
  have B1d : Hid (Blk w1.drew (w.heap.size + 1) #[.string b1, .string b2] 23) := Lib.hid B1.out
  have R1d : Hid (Blk w1.drew (w.heap.size + 2) #[.string ⟨#[]⟩, .string ⟨#[]⟩] 23) := Lib.hid R1.out
  have L1d : Hid (Below w.heap.size w w1.drew) := Lib.hid L1.out.drew
  clear K1 A1 B1 R1 L1
  go_wp2
  go_region_held3 (fun w' => (w'.cell? ⟨w.heap.size, 0, none⟩ = some (.string a1) ∧ w'.cell? ⟨w.heap.size, 1, none⟩ = some (.string a2)) ∧ (w'.cell? ⟨w.heap.size + 1, 0, none⟩ = some (.string b1) ∧ w'.cell? ⟨w.heap.size + 1, 1, none⟩ = some (.string b2))) (go_keep)
    ((first
      | (go_at_call 60; (with_reducible refine (M1.out _ K1d.out (Hg.out.below L1d.out)).mono ?_)
         rintro e w2 ⟨rfl, k2, g2⟩
         have K2 := Lib.hid k2
         have A2 := Lib.hid (Blk.other A1d.out g2 (by omega))
         have B2 := Lib.hid (Blk.other B1d.out g2 (by omega))
         have R2 := Lib.hid (Blk.other R1d.out g2 (by omega))
         have L2 := Lib.hid (L1d.out.trans (below_of_grown g2 (by omega) L1d.out.size))
         obtain ⟨a20, a21, _, _, _⟩ := blk2 A2.out
         obtain ⟨b20, b21, _, _, _⟩ := blk2 B2.out
         clear k2 g2)
      | (go_at_call 60; (with_reducible refine (M2.out _ K2.out (Hg.out.below L2.out)).mono ?_)
         rintro e w3 ⟨rfl, k3, g3⟩
         have K3 := Lib.hid k3
         have A3 := Lib.hid (Blk.other A2.out g3 (by omega))
         have B3 := Lib.hid (Blk.other B2.out g3 (by omega))
         have R3 := Lib.hid (Blk.other R2.out g3 (by omega))
         have L3 := Lib.hid (L2.out.trans (below_of_grown g3 (by omega) L2.out.size))
         obtain ⟨a30, a31, _, _, _⟩ := blk2 A3.out
         obtain ⟨b30, b31, _, _, _⟩ := blk2 B3.out
         clear k3 g3)
      | (go_at_call 84; (with_reducible refine (M3.out _ K3.out (Hg.out.below L3.out)).mono ?_)
         rintro e w4 ⟨rfl, k4, g4⟩
         have K4 := Lib.hid k4
         have A4 := Lib.hid (Blk.other A3.out g4 (by omega))
         have B4 := Lib.hid (Blk.other B3.out g4 (by omega))
         have R4 := Lib.hid (Blk.other R3.out g4 (by omega))
         have L4 := Lib.hid (L3.out.trans (below_of_grown g4 (by omega) L3.out.size))
         obtain ⟨a40, a41, _, _, _⟩ := blk2 A4.out
         obtain ⟨b40, b41, _, _, _⟩ := blk2 B4.out
         clear k4 g4)))
  go_wp2_with fail
  refine (mul_any a2 b2 (w.heap.size + 3) d4 _ K4.out (fun _ => Hg.out.below L4.out) Hz.out.1.2 Hz.out.2.2).mono ?_
  rw [show doF d4 (iMul a2 b2) = (x5, d5) from V5.out.symm]
  rintro e w5 ⟨rfl, k5, g5⟩
  have K5 := Lib.hid k5
  have A5 := Lib.hid (Blk.other A4.out g5 (by omega))
  have B5 := Lib.hid (Blk.other B4.out g5 (by omega))
  have R5 := Lib.hid (Blk.other R4.out g5 (by omega))
  have L5 := Lib.hid (L4.out.trans (below_of_grown g5 (by omega) L4.out.size))
  obtain ⟨a50, a51, _, _, _⟩ := blk2 A5.out
  obtain ⟨b50, b51, _, _, _⟩ := blk2 B5.out
  clear k5 g5
  go_wp2_with fail
  refine (reduced_any x4 x5 (w.heap.size + 3) d5 _ K5.out (fun h => ⟨(HK.out h).1, (HK.out h).2, Hg.out.below L5.out⟩) Hb.out).mono ?_
  rintro e w6 ⟨rfl, g6⟩
  have R6 := Lib.hid (Blk.other R5.out g6 (by omega))
  have L6 := Lib.hid (L5.out.trans (below_of_grown g6 (by omega) L5.out.size))
  clear g6
  generalize redF d5 x4 x5 = r at *
  obtain ⟨r1, r2, r3, r4, r5⟩ := blk2 R6.out
  obtain ⟨⟨q1, q2⟩, q3⟩ := r
  go_wp2
  skip
  refine bodyPost_ret (v := vRE ((q1, q2), q3)) (by simp [results, Tryz.results61, go_sem, r1, r2, r3, r4, r5]) rfl ⟨rfl, ?_⟩
  exact (L6.out.setCell (by simp) _).setCell (by simp) _

set_option maxRecDepth 100000 in
theorem ratAdd_any (a b : RS) (w : World) (hg : Glob w) (ha : Sz a) (hb : Sz b) : Calls Tryz.prog 27 #[vR a, vR b] w (RatPost (rAdd a b) w) := by
  have H := Lib.hid (fun w hg => ratSum_any _ _ opAdd okAdd a b w hg ha hb)
  rw [sum_add] at H
  obtain ⟨a1, a2⟩ := a
  obtain ⟨b1, b2⟩ := b
  show Calls _ _ #[.agg #[.string a1, .string a2], .agg #[.string b1, .string b2]] _ _
  generalize rAdd (a1, a2) (b1, b2) = r at *
  obtain ⟨⟨q1, q2⟩, q3⟩ := r
  have Hg := Lib.hid hg
  clear hg ha hb
  go_enter Tryz.func27, Tryz.ntmps27
  go_wp2_with fail
  refine (H.out _ (Hg.out.below ((((Below.refl _ w).alloc (Nat.le_refl _) _).alloc (by simp) _).alloc (by simp; omega) _))).mono ?_
  rintro e w1 ⟨rfl, hb1⟩
  have R1 := Lib.hid (Blk.below (Blk.newAt _ #[.string ⟨#[]⟩, .string ⟨#[]⟩] 23 (b := w.heap.size + 1 + 1) (by simp)) hb1 (by simp))
  have L1 := Lib.hid (((((Below.refl _ w).alloc (Nat.le_refl _) _).alloc (by simp) _).alloc (by simp; omega) _).trans (hb1.mono (by simp; omega)))
  clear hb1
  obtain ⟨r1, r2, r3, r4, r5⟩ := blk2 R1.out
  go_wp2
  refine bodyPost_ret (v := vRE ((q1, q2), q3)) (by simp [results, Tryz.results27, go_sem, r1, r2, r3, r4, r5]) rfl ⟨rfl, ?_⟩
  exact (L1.out.setCell (by simp <;> omega) _).setCell (by simp <;> omega) _
set_option maxRecDepth 100000 in
theorem ratSub_any (a b : RS) (w : World) (hg : Glob w) (ha : Sz a) (hb : Sz b) : Calls Tryz.prog 44 #[vR a, vR b] w (RatPost (rSub a b) w) := by
  have H := Lib.hid (fun w hg => ratSum_any _ _ opSub okSub a b w hg ha hb)
  rw [sum_sub] at H
  obtain ⟨a1, a2⟩ := a
  obtain ⟨b1, b2⟩ := b
  show Calls _ _ #[.agg #[.string a1, .string a2], .agg #[.string b1, .string b2]] _ _
  generalize rSub (a1, a2) (b1, b2) = r at *
  obtain ⟨⟨q1, q2⟩, q3⟩ := r
  have Hg := Lib.hid hg
  clear hg ha hb
  go_enter Tryz.func44, Tryz.ntmps44
  go_wp2_with fail
  refine (H.out _ (Hg.out.below ((((Below.refl _ w).alloc (Nat.le_refl _) _).alloc (by simp) _).alloc (by simp; omega) _))).mono ?_
  rintro e w1 ⟨rfl, hb1⟩
  have R1 := Lib.hid (Blk.below (Blk.newAt _ #[.string ⟨#[]⟩, .string ⟨#[]⟩] 23 (b := w.heap.size + 1 + 1) (by simp)) hb1 (by simp))
  have L1 := Lib.hid (((((Below.refl _ w).alloc (Nat.le_refl _) _).alloc (by simp) _).alloc (by simp; omega) _).trans (hb1.mono (by simp; omega)))
  clear hb1
  obtain ⟨r1, r2, r3, r4, r5⟩ := blk2 R1.out
  go_wp2
  refine bodyPost_ret (v := vRE ((q1, q2), q3)) (by simp [results, Tryz.results44, go_sem, r1, r2, r3, r4, r5]) rfl ⟨rfl, ?_⟩
  exact (L1.out.setCell (by simp <;> omega) _).setCell (by simp <;> omega) _
end Go.Proofs.YtgeoidnleagloaaGreatDoor
