/- Walks of package rational: Down and Up. -/
import Derived.Test.YtgeoidnleagloaaGreatDoorQE
set_option linter.unusedVariables false
set_option linter.unusedSimpArgs false
namespace Go.Proofs.YtgeoidnleagloaaGreatDoor
open Go.RowKit Yk

theorem val_zeros (n : Nat) (l : List Nat) : val 10 (List.replicate n 0 ++ l) = 10 ^ n * val 10 l := by
  have e0 : ∀ n, val 10 (List.replicate n 0) = 0 := by
    intro n
    induction n with
    | zero => rfl
    | succ n ih => rw [List.replicate_succ, val, ih]
  rw [val_append, e0, List.length_replicate, Nat.zero_add]
/-- One with zeros behind it. -/
def tenT (p : Nat) : ByteArray := ⟨(49 :: List.replicate p 48).toArray⟩
theorem tenT_list (p : Nat) : (tenT p).data.toList = 49 :: List.replicate p 48 := rfl
theorem body_tenT (p : Nat) : body (49 :: List.replicate p 48) = 49 :: List.replicate p 48 := by simp [body]
theorem vS_tenT {p : Nat} (h : p < 200) : vS (tenT p) = true := by
  unfold vS
  rw [tenT_list]
  refine vld_mk ?_ ?_ ?_ ?_ <;> rw [body_tenT]
  · simp
  · simp; omega
  · intro c hc
    rcases List.mem_cons.1 hc with h | h
    · subst h; decide
    · rw [List.eq_of_mem_replicate h]; decide
  · right; simp
theorem nS_tenT (p : Nat) : nS (tenT p) = ten p := by
  unfold nS ten
  rw [tenT_list]
  unfold toI
  rw [if_neg (by simp), body_tenT]
  congr 1
  unfold nat10
  rw [List.reverse_cons, List.map_append, List.reverse_replicate, List.map_replicate, show dv 48 = 0 from rfl, val_zeros]
  simp [val, show dv 49 = 1 from rfl]
theorem ofI_ten {p : Nat} (h : p < 200) : ofI (ten p) = tenT p := by rw [← nS_tenT, ofI_nS (vS_tenT h)]
theorem ten_pos (p : Nat) : 0 < ten p := by unfold ten; have : 0 < 10 ^ p := Nat.pow_pos (by decide); omega
theorem ten_ofI {p : Nat} (h : p < 200) : ofI (ten p) = ⟨(49 :: List.replicate p 48).toArray⟩ := ofI_ten h
/-- What 'round' gives. -/
def roundF (r : RS) (p : Int) (up : Bool) : RS × Int := if rV r && decide (0 ≤ p ∧ p ≤ 30) && small (nS r.1 * ten p.toNat) then
  rMk (if up && decide (nS r.1 * ten p.toNat % nS r.2 ≠ 0) then nS r.1 * ten p.toNat / nS r.2 + 1 else nS r.1 * ten p.toNat / nS r.2) (ten p.toNat) else (noR, 40)
theorem roundF_down (r : RS) (p : Int) : roundF r p false = rDown r p := by unfold roundF rDown; simp
theorem roundF_up (r : RS) (p : Int) : roundF r p true = rUp r p := by
  unfold roundF rUp
  split
  · congr 1
    by_cases h : nS r.1 * ten p.toNat % nS r.2 = 0 <;> simp [h]
  · rfl
theorem vS_ediv {n d : Int} (hn : small n = true) (hd : small d = true) (h0 : 0 < d) : vS (ofI (n / d)) = true ∧ vS (ofI (n % d)) = true := by
  have := vS_quo (n := ofI n) (d := ofI d) (vS_small hn) (vS_small hd) (by rw [nS_ofI]; exact h0)
  rw [nS_ofI, nS_ofI] at this
  exact this
theorem small_nS {s : ByteArray} (h : vS s = true) : small (nS s) = true := small_iff.2 (nS_lt h)
set_option maxRecDepth 100000 in
set_option maxHeartbeats 1000000 in
theorem round_neg (a1 a2 : ByteArray) (p : Int) (up : Bool) (hp : p < 0) (w : World) (hg : Glob w) (ha : Sz (a1, a2)) : Calls Tryz.prog 69 #[.agg #[.string a1, .string a2], .int .i64 p, .bool up] w (RatPost (noR, 40) w) := by
  have Hg := Lib.hid hg
  have Hz := Lib.hid ha
  have t1 : decide (p < 0) = true := by simpa using hp
  have HBAD : Hid ((true || [(a1, a2)].any fun r => !rV r) = true) := Lib.hid (by simp [*])
  clear hg ha
  have q0 : Blk ((((w.alloc (.cells #[.string a1, .string a2] 23)).alloc (.cells #[.string ⟨#[]⟩, .string ⟨#[]⟩] 23)).alloc (.cells #[.bool true] 78)).alloc (.cells #[.string a1, .string a2] 23)) w.heap.size #[.string a1, .string a2] 23 := (((Blk.new w _ _).alloc _).alloc _).alloc _
  have q2 : Blk ((((w.alloc (.cells #[.string a1, .string a2] 23)).alloc (.cells #[.string ⟨#[]⟩, .string ⟨#[]⟩] 23)).alloc (.cells #[.bool true] 78)).alloc (.cells #[.string a1, .string a2] 23)) (w.heap.size + 1) #[.string ⟨#[]⟩, .string ⟨#[]⟩] 23 := ((Blk.newAt _ _ _ (by simp)).alloc _).alloc _
  have q3 : Wk ((((w.alloc (.cells #[.string a1, .string a2] 23)).alloc (.cells #[.string ⟨#[]⟩, .string ⟨#[]⟩] 23)).alloc (.cells #[.bool true] 78)).alloc (.cells #[.string a1, .string a2] 23)) (w.heap.size + 2) true := (Blk.newAt _ _ _ (by simp)).alloc _
  have q4 : Blk ((((w.alloc (.cells #[.string a1, .string a2] 23)).alloc (.cells #[.string ⟨#[]⟩, .string ⟨#[]⟩] 23)).alloc (.cells #[.bool true] 78)).alloc (.cells #[.string a1, .string a2] 23)) (w.heap.size + 3) #[.string a1, .string a2] 23 := Blk.newAt _ _ _ (by simp)
  have q5 : Below w.heap.size w ((((w.alloc (.cells #[.string a1, .string a2] 23)).alloc (.cells #[.string ⟨#[]⟩, .string ⟨#[]⟩] 23)).alloc (.cells #[.bool true] 78)).alloc (.cells #[.string a1, .string a2] 23)) := ((((Below.refl _ w).alloc (Nat.le_refl _) _).alloc (by simp) _).alloc (by simp <;> omega) _).alloc (by simp <;> omega) _
  have A0 := Lib.hid q0
  have R0 := Lib.hid q2
  have K0 := Lib.hid q3
  have S0 := Lib.hid q4
  have L0 := Lib.hid q5
  have hA := Hg.out.above (b := w.heap.size + 2) (by omega)
  have Hb := Lib.hid hA
  clear q0 q2 q3 q4 q5 hA
  go_enter Tryz.func69, Tryz.ntmps69
  go_wp2_with fail
  simp only [Nat.add_assoc, Nat.reduceAdd]
  generalize ((((w.alloc (.cells #[.string a1, .string a2] 23)).alloc (.cells #[.string ⟨#[]⟩, .string ⟨#[]⟩] 23)).alloc (.cells #[.bool true] 78)).alloc (.cells #[.string a1, .string a2] 23)) = w0 at *
  refine (check_any [(a1, a2)] (w.heap.size + 3) _ (w.heap.size + 2) true _ K0.out (rdR1 S0.out) (by omega) (by simp) (Hg.out.below L0.out) Hb.out (sz1 Hz.out)).mono ?_
  rw [HBAD.out]
  rintro e w1 ⟨rfl, k1, g1⟩
  have K1 := Lib.hid k1
  have A1 := Lib.hid (Blk.other A0.out g1 (by omega))
  have R1 := Lib.hid (Blk.other R0.out g1 (by omega))
  have L1 := Lib.hid (L0.out.trans (below_of_grown g1 (by omega) L0.out.size))
  obtain ⟨a10, a11, _, _, _⟩ := blk2 A1.out
  obtain ⟨c10, c11, _⟩ := blk1 K1.out
  obtain ⟨r11, r12, r13, r14, r15⟩ := blk2 R1.out
  clear k1 g1
  clear S0
  go_wp2
  refine bodyPost_ret (v := vRE (noR, 40)) (by simp [results, Tryz.results69, go_sem, noR, r11, r12, r13, r14, r15]; rfl) rfl ⟨rfl, ?_⟩
  exact (L1.out.setCell (by simp) _).setCell (by simp) _
set_option maxRecDepth 100000 in
set_option maxHeartbeats 1000000 in
theorem round_big (a1 a2 : ByteArray) (p : Int) (up : Bool) (hp0 : 0 ≤ p) (hp : 30 < p) (w : World) (hg : Glob w) (ha : Sz (a1, a2)) : Calls Tryz.prog 69 #[.agg #[.string a1, .string a2], .int .i64 p, .bool up] w (RatPost (noR, 40) w) := by
  have Hg := Lib.hid hg
  have Hz := Lib.hid ha
  have t1 : decide (p < 0) = false := by simp; omega
  have t2 : decide (30 < p) = true := by simpa using hp
  have HBAD : Hid ((true || [(a1, a2)].any fun r => !rV r) = true) := Lib.hid (by simp [*])
  clear hg ha
  have q0 : Blk ((((w.alloc (.cells #[.string a1, .string a2] 23)).alloc (.cells #[.string ⟨#[]⟩, .string ⟨#[]⟩] 23)).alloc (.cells #[.bool true] 78)).alloc (.cells #[.string a1, .string a2] 23)) w.heap.size #[.string a1, .string a2] 23 := (((Blk.new w _ _).alloc _).alloc _).alloc _
  have q2 : Blk ((((w.alloc (.cells #[.string a1, .string a2] 23)).alloc (.cells #[.string ⟨#[]⟩, .string ⟨#[]⟩] 23)).alloc (.cells #[.bool true] 78)).alloc (.cells #[.string a1, .string a2] 23)) (w.heap.size + 1) #[.string ⟨#[]⟩, .string ⟨#[]⟩] 23 := ((Blk.newAt _ _ _ (by simp)).alloc _).alloc _
  have q3 : Wk ((((w.alloc (.cells #[.string a1, .string a2] 23)).alloc (.cells #[.string ⟨#[]⟩, .string ⟨#[]⟩] 23)).alloc (.cells #[.bool true] 78)).alloc (.cells #[.string a1, .string a2] 23)) (w.heap.size + 2) true := (Blk.newAt _ _ _ (by simp)).alloc _
  have q4 : Blk ((((w.alloc (.cells #[.string a1, .string a2] 23)).alloc (.cells #[.string ⟨#[]⟩, .string ⟨#[]⟩] 23)).alloc (.cells #[.bool true] 78)).alloc (.cells #[.string a1, .string a2] 23)) (w.heap.size + 3) #[.string a1, .string a2] 23 := Blk.newAt _ _ _ (by simp)
  have q5 : Below w.heap.size w ((((w.alloc (.cells #[.string a1, .string a2] 23)).alloc (.cells #[.string ⟨#[]⟩, .string ⟨#[]⟩] 23)).alloc (.cells #[.bool true] 78)).alloc (.cells #[.string a1, .string a2] 23)) := ((((Below.refl _ w).alloc (Nat.le_refl _) _).alloc (by simp) _).alloc (by simp <;> omega) _).alloc (by simp <;> omega) _
  have A0 := Lib.hid q0
  have R0 := Lib.hid q2
  have K0 := Lib.hid q3
  have S0 := Lib.hid q4
  have L0 := Lib.hid q5
  have hA := Hg.out.above (b := w.heap.size + 2) (by omega)
  have Hb := Lib.hid hA
  clear q0 q2 q3 q4 q5 hA
  go_enter Tryz.func69, Tryz.ntmps69
  go_wp2_with fail
  simp only [Nat.add_assoc, Nat.reduceAdd]
  generalize ((((w.alloc (.cells #[.string a1, .string a2] 23)).alloc (.cells #[.string ⟨#[]⟩, .string ⟨#[]⟩] 23)).alloc (.cells #[.bool true] 78)).alloc (.cells #[.string a1, .string a2] 23)) = w0 at *
  refine (check_any [(a1, a2)] (w.heap.size + 3) _ (w.heap.size + 2) true _ K0.out (rdR1 S0.out) (by omega) (by simp) (Hg.out.below L0.out) Hb.out (sz1 Hz.out)).mono ?_
  rw [HBAD.out]
  rintro e w1 ⟨rfl, k1, g1⟩
  have K1 := Lib.hid k1
  have A1 := Lib.hid (Blk.other A0.out g1 (by omega))
  have R1 := Lib.hid (Blk.other R0.out g1 (by omega))
  have L1 := Lib.hid (L0.out.trans (below_of_grown g1 (by omega) L0.out.size))
  obtain ⟨a10, a11, _, _, _⟩ := blk2 A1.out
  obtain ⟨c10, c11, _⟩ := blk1 K1.out
  obtain ⟨r11, r12, r13, r14, r15⟩ := blk2 R1.out
  clear k1 g1
  clear S0
  go_wp2
  refine bodyPost_ret (v := vRE (noR, 40)) (by simp [results, Tryz.results69, go_sem, noR, r11, r12, r13, r14, r15]; rfl) rfl ⟨rfl, ?_⟩
  exact (L1.out.setCell (by simp) _).setCell (by simp) _
set_option maxRecDepth 100000 in
set_option maxHeartbeats 1000000 in
theorem round_inv (a1 a2 : ByteArray) (p : Int) (up : Bool) (hp0 : 0 ≤ p) (hp : p ≤ 30) (hv : rV (a1, a2) = false) (w : World) (hg : Glob w) (ha : Sz (a1, a2)) : Calls Tryz.prog 69 #[.agg #[.string a1, .string a2], .int .i64 p, .bool up] w (RatPost (noR, 40) w) := by
  have Hg := Lib.hid hg
  have Hz := Lib.hid ha
  have t1 : decide (p < 0) = false := by simp; omega
  have t2 : decide (30 < p) = false := by simp; omega
  have HBAD : Hid ((false || [(a1, a2)].any fun r => !rV r) = true) := Lib.hid (by simp [*])
  clear hv
  clear hg ha
  have q0 : Blk ((((w.alloc (.cells #[.string a1, .string a2] 23)).alloc (.cells #[.string ⟨#[]⟩, .string ⟨#[]⟩] 23)).alloc (.cells #[.bool false] 78)).alloc (.cells #[.string a1, .string a2] 23)) w.heap.size #[.string a1, .string a2] 23 := (((Blk.new w _ _).alloc _).alloc _).alloc _
  have q2 : Blk ((((w.alloc (.cells #[.string a1, .string a2] 23)).alloc (.cells #[.string ⟨#[]⟩, .string ⟨#[]⟩] 23)).alloc (.cells #[.bool false] 78)).alloc (.cells #[.string a1, .string a2] 23)) (w.heap.size + 1) #[.string ⟨#[]⟩, .string ⟨#[]⟩] 23 := ((Blk.newAt _ _ _ (by simp)).alloc _).alloc _
  have q3 : Wk ((((w.alloc (.cells #[.string a1, .string a2] 23)).alloc (.cells #[.string ⟨#[]⟩, .string ⟨#[]⟩] 23)).alloc (.cells #[.bool false] 78)).alloc (.cells #[.string a1, .string a2] 23)) (w.heap.size + 2) false := (Blk.newAt _ _ _ (by simp)).alloc _
  have q4 : Blk ((((w.alloc (.cells #[.string a1, .string a2] 23)).alloc (.cells #[.string ⟨#[]⟩, .string ⟨#[]⟩] 23)).alloc (.cells #[.bool false] 78)).alloc (.cells #[.string a1, .string a2] 23)) (w.heap.size + 3) #[.string a1, .string a2] 23 := Blk.newAt _ _ _ (by simp)
  have q5 : Below w.heap.size w ((((w.alloc (.cells #[.string a1, .string a2] 23)).alloc (.cells #[.string ⟨#[]⟩, .string ⟨#[]⟩] 23)).alloc (.cells #[.bool false] 78)).alloc (.cells #[.string a1, .string a2] 23)) := ((((Below.refl _ w).alloc (Nat.le_refl _) _).alloc (by simp) _).alloc (by simp <;> omega) _).alloc (by simp <;> omega) _
  have A0 := Lib.hid q0
  have R0 := Lib.hid q2
  have K0 := Lib.hid q3
  have S0 := Lib.hid q4
  have L0 := Lib.hid q5
  have hA := Hg.out.above (b := w.heap.size + 2) (by omega)
  have Hb := Lib.hid hA
  clear q0 q2 q3 q4 q5 hA
  go_enter Tryz.func69, Tryz.ntmps69
  go_wp2_with fail
  simp only [Nat.add_assoc, Nat.reduceAdd]
  generalize ((((w.alloc (.cells #[.string a1, .string a2] 23)).alloc (.cells #[.string ⟨#[]⟩, .string ⟨#[]⟩] 23)).alloc (.cells #[.bool false] 78)).alloc (.cells #[.string a1, .string a2] 23)) = w0 at *
  refine (check_any [(a1, a2)] (w.heap.size + 3) _ (w.heap.size + 2) false _ K0.out (rdR1 S0.out) (by omega) (by simp) (Hg.out.below L0.out) Hb.out (sz1 Hz.out)).mono ?_
  rw [HBAD.out]
  rintro e w1 ⟨rfl, k1, g1⟩
  have K1 := Lib.hid k1
  have A1 := Lib.hid (Blk.other A0.out g1 (by omega))
  have R1 := Lib.hid (Blk.other R0.out g1 (by omega))
  have L1 := Lib.hid (L0.out.trans (below_of_grown g1 (by omega) L0.out.size))
  obtain ⟨a10, a11, _, _, _⟩ := blk2 A1.out
  obtain ⟨c10, c11, _⟩ := blk1 K1.out
  obtain ⟨r11, r12, r13, r14, r15⟩ := blk2 R1.out
  clear k1 g1
  clear S0
  go_wp2
  refine bodyPost_ret (v := vRE (noR, 40)) (by simp [results, Tryz.results69, go_sem, noR, r11, r12, r13, r14, r15]; rfl) rfl ⟨rfl, ?_⟩
  exact (L1.out.setCell (by simp) _).setCell (by simp) _
set_option maxRecDepth 100000 in
set_option maxHeartbeats 1000000 in
theorem round_no (a1 a2 : ByteArray) (p : Int) (up : Bool) (hp0 : 0 ≤ p) (hp : p ≤ 30) (hv : rV (a1, a2) = true) (hs : small (nS a1 * ten p.toNat) = false) (w : World) (hg : Glob w) (ha : Sz (a1, a2)) : Calls Tryz.prog 69 #[.agg #[.string a1, .string a2], .int .i64 p, .bool up] w (RatPost (noR, 40) w) := by
  have Hg := Lib.hid hg
  have Hz := Lib.hid ha
  have t1 : decide (p < 0) = false := by simp; omega
  have t2 : decide (30 < p) = false := by simp; omega
  have HBAD : Hid ((false || [(a1, a2)].any fun r => !rV r) = false) := Lib.hid (by simp [*])
  have hvp := rV_parts hv
  simp only at hvp
  have HV := Lib.hid hvp
  obtain ⟨k, hk⟩ : ∃ k : Nat, p.toNat = k := ⟨_, rfl⟩
  have hk30 : k ≤ 30 := by omega
  have Hk := Lib.hid hk
  have hkp : p = (k : Int) := by omega
  have HT : Hid (ofI (ten k) = ⟨(49 :: List.replicate k 48).toArray⟩) := Lib.hid (ten_ofI (by omega))
  have HMUL : Hid (doF false (iMul a1 (ofI (ten k))) = if small (nS a1 * ten k) then (ofI (nS a1 * ten k), false) else (ByteArray.empty, true)) := Lib.hid (by rw [iMul_chk hvp.1 (by rw [ofI_ten (by omega)]; exact vS_tenT (by omega)), doF_chk, nS_ofI])
  have HVT : Hid (vS (ofI (ten k)) = true) := Lib.hid (by rw [ofI_ten (by omega)]; exact vS_tenT (by omega))
  have HRP : Hid (∀ W, Calls Tryz.prog 96 #[.string ⟨#[48]⟩, .int .i64 p] W fun e w' => e = .returned (.string ⟨(List.replicate k 48).toArray⟩) ∧ Below W.heap.size W w') := Lib.hid fun W => by
    have := libRepeat0 p W hp0 (by omega)
    rwa [hk] at this
  rw [hk] at hs
  have Hs := Lib.hid hs
  clear hv hs hk hvp
  subst hkp
  clear hg ha
  have q0 : Blk ((((w.alloc (.cells #[.string a1, .string a2] 23)).alloc (.cells #[.string ⟨#[]⟩, .string ⟨#[]⟩] 23)).alloc (.cells #[.bool false] 78)).alloc (.cells #[.string a1, .string a2] 23)) w.heap.size #[.string a1, .string a2] 23 := (((Blk.new w _ _).alloc _).alloc _).alloc _
  have q2 : Blk ((((w.alloc (.cells #[.string a1, .string a2] 23)).alloc (.cells #[.string ⟨#[]⟩, .string ⟨#[]⟩] 23)).alloc (.cells #[.bool false] 78)).alloc (.cells #[.string a1, .string a2] 23)) (w.heap.size + 1) #[.string ⟨#[]⟩, .string ⟨#[]⟩] 23 := ((Blk.newAt _ _ _ (by simp)).alloc _).alloc _
  have q3 : Wk ((((w.alloc (.cells #[.string a1, .string a2] 23)).alloc (.cells #[.string ⟨#[]⟩, .string ⟨#[]⟩] 23)).alloc (.cells #[.bool false] 78)).alloc (.cells #[.string a1, .string a2] 23)) (w.heap.size + 2) false := (Blk.newAt _ _ _ (by simp)).alloc _
  have q4 : Blk ((((w.alloc (.cells #[.string a1, .string a2] 23)).alloc (.cells #[.string ⟨#[]⟩, .string ⟨#[]⟩] 23)).alloc (.cells #[.bool false] 78)).alloc (.cells #[.string a1, .string a2] 23)) (w.heap.size + 3) #[.string a1, .string a2] 23 := Blk.newAt _ _ _ (by simp)
  have q5 : Below w.heap.size w ((((w.alloc (.cells #[.string a1, .string a2] 23)).alloc (.cells #[.string ⟨#[]⟩, .string ⟨#[]⟩] 23)).alloc (.cells #[.bool false] 78)).alloc (.cells #[.string a1, .string a2] 23)) := ((((Below.refl _ w).alloc (Nat.le_refl _) _).alloc (by simp) _).alloc (by simp <;> omega) _).alloc (by simp <;> omega) _
  have A0 := Lib.hid q0
  have R0 := Lib.hid q2
  have K0 := Lib.hid q3
  have S0 := Lib.hid q4
  have L0 := Lib.hid q5
  have hA := Hg.out.above (b := w.heap.size + 2) (by omega)
  have Hb := Lib.hid hA
  clear q0 q2 q3 q4 q5 hA
  go_enter Tryz.func69, Tryz.ntmps69
  go_wp2_with fail
  simp only [Nat.add_assoc, Nat.reduceAdd]
  generalize ((((w.alloc (.cells #[.string a1, .string a2] 23)).alloc (.cells #[.string ⟨#[]⟩, .string ⟨#[]⟩] 23)).alloc (.cells #[.bool false] 78)).alloc (.cells #[.string a1, .string a2] 23)) = w0 at *
  refine (check_any [(a1, a2)] (w.heap.size + 3) _ (w.heap.size + 2) false _ K0.out (rdR1 S0.out) (by omega) (by simp) (Hg.out.below L0.out) Hb.out (sz1 Hz.out)).mono ?_
  rw [HBAD.out]
  rintro e w1 ⟨rfl, k1, g1⟩
  have K1 := Lib.hid k1
  have A1 := Lib.hid (Blk.other A0.out g1 (by omega))
  have R1 := Lib.hid (Blk.other R0.out g1 (by omega))
  have L1 := Lib.hid (L0.out.trans (below_of_grown g1 (by omega) L0.out.size))
  obtain ⟨a10, a11, _, _, _⟩ := blk2 A1.out
  obtain ⟨c10, c11, _⟩ := blk1 K1.out
  obtain ⟨r11, r12, r13, r14, r15⟩ := blk2 R1.out
  clear k1 g1
  clear S0
  go_wp2_with fail
  refine (HRP.out _).mono ?_
  rintro e w2 ⟨rfl, hb2⟩
  have A2 := Lib.hid (Blk.below A1.out hb2 A1.out.lt)
  have R2 := Lib.hid (Blk.below R1.out hb2 R1.out.lt)
  have K2 := Lib.hid (Blk.below K1.out hb2 K1.out.lt)
  have L2 := Lib.hid (L1.out.trans (hb2.mono L1.out.size))
  obtain ⟨a20, a21, _, _, _⟩ := blk2 A2.out
  obtain ⟨c20, c21, _⟩ := blk1 K2.out
  obtain ⟨r21, r22, r23, r24, r25⟩ := blk2 R2.out
  clear hb2
  obtain ⟨t, ht⟩ : ∃ t : ByteArray, ofI (ten k) = t := ⟨_, rfl⟩
  have Hte : Hid ((⟨#[49]⟩ ++ ⟨(List.replicate k 48).toArray⟩ : ByteArray) = t) := Lib.hid (by rw [← ht, HT.out]; apply ba_ext; simp)
  rw [ht] at HMUL HVT
  have Ht := Lib.hid ht
  clear ht HT
  go_wp2_with fail
  simp only [List.toArray_replicate] at Hte
  rw [Hte.out]
  refine (mul_any a1 t (w.heap.size + 2) false _ K2.out (fun _ => Hg.out.below L2.out) Hz.out.1 (size_vS HVT.out)).mono ?_
  rw [HMUL.out]
  rw [Hs.out]
  rintro e w3 ⟨rfl, k3, g3⟩
  simp only [Bool.false_eq_true, if_false] at k3
  have K3 := Lib.hid k3
  have A3 := Lib.hid (Blk.other A2.out g3 (by omega))
  have R3 := Lib.hid (Blk.other R2.out g3 (by omega))
  have L3 := Lib.hid (L2.out.trans (below_of_grown g3 (by omega) L2.out.size))
  obtain ⟨a30, a31, _, _, _⟩ := blk2 A3.out
  obtain ⟨c30, c31, _⟩ := blk1 K3.out
  obtain ⟨r31, r32, r33, r34, r35⟩ := blk2 R3.out
  clear k3 g3
  go_wp2
  refine bodyPost_ret (v := vRE (noR, 40)) (by simp [results, Tryz.results69, go_sem, noR, r31, r32, r33, r34, r35]; rfl) rfl ⟨rfl, ?_⟩
  exact (L3.out.setCell (by simp) _).setCell (by simp) _
set_option maxRecDepth 100000 in
set_option maxHeartbeats 1000000 in
theorem round_down (a1 a2 : ByteArray) (p : Int)  (hp0 : 0 ≤ p) (hp : p ≤ 30) (hv : rV (a1, a2) = true) (hs : small (nS a1 * ten p.toNat) = true) (w : World) (hg : Glob w) (ha : Sz (a1, a2)) : Calls Tryz.prog 69 #[.agg #[.string a1, .string a2], .int .i64 p, .bool false] w (RatPost (rMk (nS a1 * ten p.toNat / nS a2) (ten p.toNat)) w) := by
  have Hg := Lib.hid hg
  have Hz := Lib.hid ha
  have t1 : decide (p < 0) = false := by simp; omega
  have t2 : decide (30 < p) = false := by simp; omega
  have HBAD : Hid ((false || [(a1, a2)].any fun r => !rV r) = false) := Lib.hid (by simp [*])
  have hvp := rV_parts hv
  simp only at hvp
  have HV := Lib.hid hvp
  obtain ⟨k, hk⟩ : ∃ k : Nat, p.toNat = k := ⟨_, rfl⟩
  have hk30 : k ≤ 30 := by omega
  have Hk := Lib.hid hk
  have hkp : p = (k : Int) := by omega
  have HT : Hid (ofI (ten k) = ⟨(49 :: List.replicate k 48).toArray⟩) := Lib.hid (ten_ofI (by omega))
  have HMUL : Hid (doF false (iMul a1 (ofI (ten k))) = if small (nS a1 * ten k) then (ofI (nS a1 * ten k), false) else (ByteArray.empty, true)) := Lib.hid (by rw [iMul_chk hvp.1 (by rw [ofI_ten (by omega)]; exact vS_tenT (by omega)), doF_chk, nS_ofI])
  have HVT : Hid (vS (ofI (ten k)) = true) := Lib.hid (by rw [ofI_ten (by omega)]; exact vS_tenT (by omega))
  have HRP : Hid (∀ W, Calls Tryz.prog 96 #[.string ⟨#[48]⟩, .int .i64 p] W fun e w' => e = .returned (.string ⟨(List.replicate k 48).toArray⟩) ∧ Below W.heap.size W w') := Lib.hid fun W => by
    have := libRepeat0 p W hp0 (by omega)
    rwa [hk] at this
  rw [hk] at hs
  rw [hk]
  have Hs := Lib.hid hs
  have hvq := vS_ediv hs (small_nS hvp.2.1) hvp.2.2.1
  have hvn := vS_small hs
  have HD : Hid (∀ W, Glob W → Calls Tryz.prog 58 #[.string (ofI (nS a1 * ten k)), .string a2] W fun e w' => e = .returned (.tuple #[.string (ofI (nS a1 * ten k / nS a2)), .string (ofI (nS a1 * ten k % nS a2)), .int .i64 0]) ∧ Below W.heap.size W w') := Lib.hid fun W hg => by
    have := intDiv_any (ofI (nS a1 * ten k)) a2 W hg (size_vS hvn) (size_vS hvp.2.1)
    rw [iDivYes hvn hvp.2.1 (by have := hvp.2.2.1; omega), nS_ofI] at this
    exact this
  have E1 := eq48 hvq.2
  rw [nS_ofI] at E1
  have HA : Hid (doF false (iAdd (ofI (nS a1 * ten k / nS a2)) ⟨#[49]⟩) = if small (nS a1 * ten k / nS a2 + 1) then (ofI (nS a1 * ten k / nS a2 + 1), false) else (ByteArray.empty, true)) := Lib.hid (by rw [iAdd_chk hvq.1 vS_one, doF_chk, nS_ofI, nS_one'])
  have HVQ := Lib.hid hvq.1
  generalize nS a1 * ten k / nS a2 = Q at *
  generalize nS a1 * ten k % nS a2 = R at *
  generalize nS a1 * ten k = M at *
  generalize ofI R = tr at *
  generalize ofI M = tm at *
  have E1' := Lib.hid E1
  have HF : Hid (∀ z bad, doF false (chkI z) = (bad : ByteArray × Bool) → redF bad.2 bad.1 (ofI (ten k)) = rMk z (ten k)) := Lib.hid (by
    rintro z bad rfl
    rw [doF_chk]
    by_cases h : small z = true
    · rw [if_pos h, redF_ofI]
    · rw [if_neg h, redF_true, rMk_no (fun h2 => h h2.1)])
  clear hv hs hk hvp hvq hvn E1
  subst hkp
  clear hg ha
  have q0 : Blk ((((w.alloc (.cells #[.string a1, .string a2] 23)).alloc (.cells #[.string ⟨#[]⟩, .string ⟨#[]⟩] 23)).alloc (.cells #[.bool false] 78)).alloc (.cells #[.string a1, .string a2] 23)) w.heap.size #[.string a1, .string a2] 23 := (((Blk.new w _ _).alloc _).alloc _).alloc _
  have q2 : Blk ((((w.alloc (.cells #[.string a1, .string a2] 23)).alloc (.cells #[.string ⟨#[]⟩, .string ⟨#[]⟩] 23)).alloc (.cells #[.bool false] 78)).alloc (.cells #[.string a1, .string a2] 23)) (w.heap.size + 1) #[.string ⟨#[]⟩, .string ⟨#[]⟩] 23 := ((Blk.newAt _ _ _ (by simp)).alloc _).alloc _
  have q3 : Wk ((((w.alloc (.cells #[.string a1, .string a2] 23)).alloc (.cells #[.string ⟨#[]⟩, .string ⟨#[]⟩] 23)).alloc (.cells #[.bool false] 78)).alloc (.cells #[.string a1, .string a2] 23)) (w.heap.size + 2) false := (Blk.newAt _ _ _ (by simp)).alloc _
  have q4 : Blk ((((w.alloc (.cells #[.string a1, .string a2] 23)).alloc (.cells #[.string ⟨#[]⟩, .string ⟨#[]⟩] 23)).alloc (.cells #[.bool false] 78)).alloc (.cells #[.string a1, .string a2] 23)) (w.heap.size + 3) #[.string a1, .string a2] 23 := Blk.newAt _ _ _ (by simp)
  have q5 : Below w.heap.size w ((((w.alloc (.cells #[.string a1, .string a2] 23)).alloc (.cells #[.string ⟨#[]⟩, .string ⟨#[]⟩] 23)).alloc (.cells #[.bool false] 78)).alloc (.cells #[.string a1, .string a2] 23)) := ((((Below.refl _ w).alloc (Nat.le_refl _) _).alloc (by simp) _).alloc (by simp <;> omega) _).alloc (by simp <;> omega) _
  have A0 := Lib.hid q0
  have R0 := Lib.hid q2
  have K0 := Lib.hid q3
  have S0 := Lib.hid q4
  have L0 := Lib.hid q5
  have hA := Hg.out.above (b := w.heap.size + 2) (by omega)
  have Hb := Lib.hid hA
  clear q0 q2 q3 q4 q5 hA
  go_enter Tryz.func69, Tryz.ntmps69
  go_wp2_with fail
  simp only [Nat.add_assoc, Nat.reduceAdd]
  generalize ((((w.alloc (.cells #[.string a1, .string a2] 23)).alloc (.cells #[.string ⟨#[]⟩, .string ⟨#[]⟩] 23)).alloc (.cells #[.bool false] 78)).alloc (.cells #[.string a1, .string a2] 23)) = w0 at *
  refine (check_any [(a1, a2)] (w.heap.size + 3) _ (w.heap.size + 2) false _ K0.out (rdR1 S0.out) (by omega) (by simp) (Hg.out.below L0.out) Hb.out (sz1 Hz.out)).mono ?_
  rw [HBAD.out]
  rintro e w1 ⟨rfl, k1, g1⟩
  have K1 := Lib.hid k1
  have A1 := Lib.hid (Blk.other A0.out g1 (by omega))
  have R1 := Lib.hid (Blk.other R0.out g1 (by omega))
  have L1 := Lib.hid (L0.out.trans (below_of_grown g1 (by omega) L0.out.size))
  obtain ⟨a10, a11, _, _, _⟩ := blk2 A1.out
  obtain ⟨c10, c11, _⟩ := blk1 K1.out
  obtain ⟨r11, r12, r13, r14, r15⟩ := blk2 R1.out
  clear k1 g1
  clear S0
  go_wp2_with fail
  refine (HRP.out _).mono ?_
  rintro e w2 ⟨rfl, hb2⟩
  have A2 := Lib.hid (Blk.below A1.out hb2 A1.out.lt)
  have R2 := Lib.hid (Blk.below R1.out hb2 R1.out.lt)
  have K2 := Lib.hid (Blk.below K1.out hb2 K1.out.lt)
  have L2 := Lib.hid (L1.out.trans (hb2.mono L1.out.size))
  obtain ⟨a20, a21, _, _, _⟩ := blk2 A2.out
  obtain ⟨c20, c21, _⟩ := blk1 K2.out
  obtain ⟨r21, r22, r23, r24, r25⟩ := blk2 R2.out
  clear hb2
  obtain ⟨t, ht⟩ : ∃ t : ByteArray, ofI (ten k) = t := ⟨_, rfl⟩
  have Hte : Hid ((⟨#[49]⟩ ++ ⟨(List.replicate k 48).toArray⟩ : ByteArray) = t) := Lib.hid (by rw [← ht, HT.out]; apply ba_ext; simp)
  rw [ht] at HMUL HVT
  have Ht := Lib.hid ht
  clear ht HT
  go_wp2_with fail
  simp only [List.toArray_replicate] at Hte
  rw [Hte.out]
  refine (mul_any a1 t (w.heap.size + 2) false _ K2.out (fun _ => Hg.out.below L2.out) Hz.out.1 (size_vS HVT.out)).mono ?_
  rw [HMUL.out]
  rw [Hs.out]
  rintro e w3 ⟨rfl, k3, g3⟩
  simp only [if_true] at k3
  simp only [if_true]
  have K3 := Lib.hid k3
  have A3 := Lib.hid (Blk.other A2.out g3 (by omega))
  have R3 := Lib.hid (Blk.other R2.out g3 (by omega))
  have L3 := Lib.hid (L2.out.trans (below_of_grown g3 (by omega) L2.out.size))
  obtain ⟨a30, a31, _, _, _⟩ := blk2 A3.out
  obtain ⟨c30, c31, _⟩ := blk1 K3.out
  obtain ⟨r31, r32, r33, r34, r35⟩ := blk2 R3.out
  clear k3 g3
  go_wp2_with fail
  refine (HD.out _ (Hg.out.below L3.out)).mono ?_
  rintro e w4 ⟨rfl, hb4⟩
  have A4 := Lib.hid (Blk.below A3.out hb4 A3.out.lt)
  have R4 := Lib.hid (Blk.below R3.out hb4 R3.out.lt)
  have K4 := Lib.hid (Blk.below K3.out hb4 K3.out.lt)
  have L4 := Lib.hid (L3.out.trans (hb4.mono L3.out.size))
  obtain ⟨a40, a41, _, _, _⟩ := blk2 A4.out
  obtain ⟨c40, c41, _⟩ := blk1 K4.out
  obtain ⟨r41, r42, r43, r44, r45⟩ := blk2 R4.out
  clear hb4
  have HFr := Lib.hid (fun z bad h => by have := HF.out z bad h; rwa [Ht.out] at this)
  have HQX : Hid (redF false (ofI Q) t = rMk Q (ten k)) := Lib.hid (by rw [← Ht.out, redF_ofI])
  generalize ofI Q = tq at *
  generalize rMk Q (ten k) = r at *
  go_wp2_with fail
  have K5 := Lib.hid (show Wk (w4.setCell ⟨w.heap.size + 2, 0, none⟩ (.bool false)) (w.heap.size + 2) false from Blk.set K4.out 0 (.bool false))
  have A5 := Lib.hid (Blk.setOther A4.out (a := ⟨w.heap.size + 2, 0, none⟩) (by simp <;> omega) (.bool false))
  have R5 := Lib.hid (Blk.setOther R4.out (a := ⟨w.heap.size + 2, 0, none⟩) (by simp <;> omega) (.bool false))
  have L5 := Lib.hid (L4.out.setCell (p := ⟨w.heap.size + 2, 0, none⟩) (by simp <;> omega) (.bool false))
  refine (reduced_any _ _ (w.heap.size + 2) false _ K5.out (fun _ => ⟨HVQ.out, HVT.out, Hg.out.below L5.out⟩) Hb.out).mono ?_
  rw [HQX.out]
  rintro e wz ⟨rfl, gz⟩
  have R9 := Lib.hid (Blk.other R5.out gz (by omega))
  have L9 := Lib.hid (L5.out.trans (below_of_grown gz (by omega) L5.out.size))
  obtain ⟨r91, r92, r93, r94, r95⟩ := blk2 R9.out
  clear gz
  obtain ⟨⟨q1, q2⟩, q3⟩ := r
  go_wp2
  refine bodyPost_ret (v := vRE ((q1, q2), q3)) (by simp [results, Tryz.results69, go_sem, r91, r92, r93, r94, r95]) rfl ⟨rfl, ?_⟩
  exact (L9.out.setCell (by simp) _).setCell (by simp) _
set_option maxRecDepth 100000 in
set_option maxHeartbeats 1000000 in
theorem round_up0 (a1 a2 : ByteArray) (p : Int) (h0 : nS a1 * ten p.toNat % nS a2 = 0) (hp0 : 0 ≤ p) (hp : p ≤ 30) (hv : rV (a1, a2) = true) (hs : small (nS a1 * ten p.toNat) = true) (w : World) (hg : Glob w) (ha : Sz (a1, a2)) : Calls Tryz.prog 69 #[.agg #[.string a1, .string a2], .int .i64 p, .bool true] w (RatPost (rMk (nS a1 * ten p.toNat / nS a2) (ten p.toNat)) w) := by
  have Hg := Lib.hid hg
  have Hz := Lib.hid ha
  have t1 : decide (p < 0) = false := by simp; omega
  have t2 : decide (30 < p) = false := by simp; omega
  have HBAD : Hid ((false || [(a1, a2)].any fun r => !rV r) = false) := Lib.hid (by simp [*])
  have hvp := rV_parts hv
  simp only at hvp
  have HV := Lib.hid hvp
  obtain ⟨k, hk⟩ : ∃ k : Nat, p.toNat = k := ⟨_, rfl⟩
  have hk30 : k ≤ 30 := by omega
  have Hk := Lib.hid hk
  have hkp : p = (k : Int) := by omega
  have HT : Hid (ofI (ten k) = ⟨(49 :: List.replicate k 48).toArray⟩) := Lib.hid (ten_ofI (by omega))
  have HMUL : Hid (doF false (iMul a1 (ofI (ten k))) = if small (nS a1 * ten k) then (ofI (nS a1 * ten k), false) else (ByteArray.empty, true)) := Lib.hid (by rw [iMul_chk hvp.1 (by rw [ofI_ten (by omega)]; exact vS_tenT (by omega)), doF_chk, nS_ofI])
  have HVT : Hid (vS (ofI (ten k)) = true) := Lib.hid (by rw [ofI_ten (by omega)]; exact vS_tenT (by omega))
  have HRP : Hid (∀ W, Calls Tryz.prog 96 #[.string ⟨#[48]⟩, .int .i64 p] W fun e w' => e = .returned (.string ⟨(List.replicate k 48).toArray⟩) ∧ Below W.heap.size W w') := Lib.hid fun W => by
    have := libRepeat0 p W hp0 (by omega)
    rwa [hk] at this
  rw [hk] at hs h0
  rw [hk]
  have Hs := Lib.hid hs
  have hvq := vS_ediv hs (small_nS hvp.2.1) hvp.2.2.1
  have hvn := vS_small hs
  have HD : Hid (∀ W, Glob W → Calls Tryz.prog 58 #[.string (ofI (nS a1 * ten k)), .string a2] W fun e w' => e = .returned (.tuple #[.string (ofI (nS a1 * ten k / nS a2)), .string (ofI (nS a1 * ten k % nS a2)), .int .i64 0]) ∧ Below W.heap.size W w') := Lib.hid fun W hg => by
    have := intDiv_any (ofI (nS a1 * ten k)) a2 W hg (size_vS hvn) (size_vS hvp.2.1)
    rw [iDivYes hvn hvp.2.1 (by have := hvp.2.2.1; omega), nS_ofI] at this
    exact this
  have E1 := eq48 hvq.2
  rw [nS_ofI] at E1
  have HA : Hid (doF false (iAdd (ofI (nS a1 * ten k / nS a2)) ⟨#[49]⟩) = if small (nS a1 * ten k / nS a2 + 1) then (ofI (nS a1 * ten k / nS a2 + 1), false) else (ByteArray.empty, true)) := Lib.hid (by rw [iAdd_chk hvq.1 vS_one, doF_chk, nS_ofI, nS_one'])
  have HVQ := Lib.hid hvq.1
  generalize nS a1 * ten k / nS a2 = Q at *
  generalize nS a1 * ten k % nS a2 = R at *
  generalize nS a1 * ten k = M at *
  generalize ofI R = tr at *
  generalize ofI M = tm at *
  have E1' := Lib.hid E1
  have HF : Hid (∀ z bad, doF false (chkI z) = (bad : ByteArray × Bool) → redF bad.2 bad.1 (ofI (ten k)) = rMk z (ten k)) := Lib.hid (by
    rintro z bad rfl
    rw [doF_chk]
    by_cases h : small z = true
    · rw [if_pos h, redF_ofI]
    · rw [if_neg h, redF_true, rMk_no (fun h2 => h h2.1)])
  have t9 : (tr.toList == [48]) = true := by rw [E1]; simp [h0]
  clear h0
  clear hv hs hk hvp hvq hvn E1
  subst hkp
  clear hg ha
  have q0 : Blk ((((w.alloc (.cells #[.string a1, .string a2] 23)).alloc (.cells #[.string ⟨#[]⟩, .string ⟨#[]⟩] 23)).alloc (.cells #[.bool false] 78)).alloc (.cells #[.string a1, .string a2] 23)) w.heap.size #[.string a1, .string a2] 23 := (((Blk.new w _ _).alloc _).alloc _).alloc _
  have q2 : Blk ((((w.alloc (.cells #[.string a1, .string a2] 23)).alloc (.cells #[.string ⟨#[]⟩, .string ⟨#[]⟩] 23)).alloc (.cells #[.bool false] 78)).alloc (.cells #[.string a1, .string a2] 23)) (w.heap.size + 1) #[.string ⟨#[]⟩, .string ⟨#[]⟩] 23 := ((Blk.newAt _ _ _ (by simp)).alloc _).alloc _
  have q3 : Wk ((((w.alloc (.cells #[.string a1, .string a2] 23)).alloc (.cells #[.string ⟨#[]⟩, .string ⟨#[]⟩] 23)).alloc (.cells #[.bool false] 78)).alloc (.cells #[.string a1, .string a2] 23)) (w.heap.size + 2) false := (Blk.newAt _ _ _ (by simp)).alloc _
  have q4 : Blk ((((w.alloc (.cells #[.string a1, .string a2] 23)).alloc (.cells #[.string ⟨#[]⟩, .string ⟨#[]⟩] 23)).alloc (.cells #[.bool false] 78)).alloc (.cells #[.string a1, .string a2] 23)) (w.heap.size + 3) #[.string a1, .string a2] 23 := Blk.newAt _ _ _ (by simp)
  have q5 : Below w.heap.size w ((((w.alloc (.cells #[.string a1, .string a2] 23)).alloc (.cells #[.string ⟨#[]⟩, .string ⟨#[]⟩] 23)).alloc (.cells #[.bool false] 78)).alloc (.cells #[.string a1, .string a2] 23)) := ((((Below.refl _ w).alloc (Nat.le_refl _) _).alloc (by simp) _).alloc (by simp <;> omega) _).alloc (by simp <;> omega) _
  have A0 := Lib.hid q0
  have R0 := Lib.hid q2
  have K0 := Lib.hid q3
  have S0 := Lib.hid q4
  have L0 := Lib.hid q5
  have hA := Hg.out.above (b := w.heap.size + 2) (by omega)
  have Hb := Lib.hid hA
  clear q0 q2 q3 q4 q5 hA
  go_enter Tryz.func69, Tryz.ntmps69
  go_wp2_with fail
  simp only [Nat.add_assoc, Nat.reduceAdd]
  generalize ((((w.alloc (.cells #[.string a1, .string a2] 23)).alloc (.cells #[.string ⟨#[]⟩, .string ⟨#[]⟩] 23)).alloc (.cells #[.bool false] 78)).alloc (.cells #[.string a1, .string a2] 23)) = w0 at *
  refine (check_any [(a1, a2)] (w.heap.size + 3) _ (w.heap.size + 2) false _ K0.out (rdR1 S0.out) (by omega) (by simp) (Hg.out.below L0.out) Hb.out (sz1 Hz.out)).mono ?_
  rw [HBAD.out]
  rintro e w1 ⟨rfl, k1, g1⟩
  have K1 := Lib.hid k1
  have A1 := Lib.hid (Blk.other A0.out g1 (by omega))
  have R1 := Lib.hid (Blk.other R0.out g1 (by omega))
  have L1 := Lib.hid (L0.out.trans (below_of_grown g1 (by omega) L0.out.size))
  obtain ⟨a10, a11, _, _, _⟩ := blk2 A1.out
  obtain ⟨c10, c11, _⟩ := blk1 K1.out
  obtain ⟨r11, r12, r13, r14, r15⟩ := blk2 R1.out
  clear k1 g1
  clear S0
  go_wp2_with fail
  refine (HRP.out _).mono ?_
  rintro e w2 ⟨rfl, hb2⟩
  have A2 := Lib.hid (Blk.below A1.out hb2 A1.out.lt)
  have R2 := Lib.hid (Blk.below R1.out hb2 R1.out.lt)
  have K2 := Lib.hid (Blk.below K1.out hb2 K1.out.lt)
  have L2 := Lib.hid (L1.out.trans (hb2.mono L1.out.size))
  obtain ⟨a20, a21, _, _, _⟩ := blk2 A2.out
  obtain ⟨c20, c21, _⟩ := blk1 K2.out
  obtain ⟨r21, r22, r23, r24, r25⟩ := blk2 R2.out
  clear hb2
  obtain ⟨t, ht⟩ : ∃ t : ByteArray, ofI (ten k) = t := ⟨_, rfl⟩
  have Hte : Hid ((⟨#[49]⟩ ++ ⟨(List.replicate k 48).toArray⟩ : ByteArray) = t) := Lib.hid (by rw [← ht, HT.out]; apply ba_ext; simp)
  rw [ht] at HMUL HVT
  have Ht := Lib.hid ht
  clear ht HT
  go_wp2_with fail
  simp only [List.toArray_replicate] at Hte
  rw [Hte.out]
  refine (mul_any a1 t (w.heap.size + 2) false _ K2.out (fun _ => Hg.out.below L2.out) Hz.out.1 (size_vS HVT.out)).mono ?_
  rw [HMUL.out]
  rw [Hs.out]
  rintro e w3 ⟨rfl, k3, g3⟩
  simp only [if_true] at k3
  simp only [if_true]
  have K3 := Lib.hid k3
  have A3 := Lib.hid (Blk.other A2.out g3 (by omega))
  have R3 := Lib.hid (Blk.other R2.out g3 (by omega))
  have L3 := Lib.hid (L2.out.trans (below_of_grown g3 (by omega) L2.out.size))
  obtain ⟨a30, a31, _, _, _⟩ := blk2 A3.out
  obtain ⟨c30, c31, _⟩ := blk1 K3.out
  obtain ⟨r31, r32, r33, r34, r35⟩ := blk2 R3.out
  clear k3 g3
  go_wp2_with fail
  refine (HD.out _ (Hg.out.below L3.out)).mono ?_
  rintro e w4 ⟨rfl, hb4⟩
  have A4 := Lib.hid (Blk.below A3.out hb4 A3.out.lt)
  have R4 := Lib.hid (Blk.below R3.out hb4 R3.out.lt)
  have K4 := Lib.hid (Blk.below K3.out hb4 K3.out.lt)
  have L4 := Lib.hid (L3.out.trans (hb4.mono L3.out.size))
  obtain ⟨a40, a41, _, _, _⟩ := blk2 A4.out
  obtain ⟨c40, c41, _⟩ := blk1 K4.out
  obtain ⟨r41, r42, r43, r44, r45⟩ := blk2 R4.out
  clear hb4
  have HFr := Lib.hid (fun z bad h => by have := HF.out z bad h; rwa [Ht.out] at this)
  have HQX : Hid (redF false (ofI Q) t = rMk Q (ten k)) := Lib.hid (by rw [← Ht.out, redF_ofI])
  generalize ofI Q = tq at *
  generalize rMk Q (ten k) = r at *
  go_wp2_with fail
  have K5 := Lib.hid (show Wk (w4.setCell ⟨w.heap.size + 2, 0, none⟩ (.bool false)) (w.heap.size + 2) false from Blk.set K4.out 0 (.bool false))
  have A5 := Lib.hid (Blk.setOther A4.out (a := ⟨w.heap.size + 2, 0, none⟩) (by simp <;> omega) (.bool false))
  have R5 := Lib.hid (Blk.setOther R4.out (a := ⟨w.heap.size + 2, 0, none⟩) (by simp <;> omega) (.bool false))
  have L5 := Lib.hid (L4.out.setCell (p := ⟨w.heap.size + 2, 0, none⟩) (by simp <;> omega) (.bool false))
  refine (reduced_any _ _ (w.heap.size + 2) false _ K5.out (fun _ => ⟨HVQ.out, HVT.out, Hg.out.below L5.out⟩) Hb.out).mono ?_
  rw [HQX.out]
  rintro e wz ⟨rfl, gz⟩
  have R9 := Lib.hid (Blk.other R5.out gz (by omega))
  have L9 := Lib.hid (L5.out.trans (below_of_grown gz (by omega) L5.out.size))
  obtain ⟨r91, r92, r93, r94, r95⟩ := blk2 R9.out
  clear gz
  obtain ⟨⟨q1, q2⟩, q3⟩ := r
  go_wp2
  refine bodyPost_ret (v := vRE ((q1, q2), q3)) (by simp [results, Tryz.results69, go_sem, r91, r92, r93, r94, r95]) rfl ⟨rfl, ?_⟩
  exact (L9.out.setCell (by simp) _).setCell (by simp) _
set_option maxRecDepth 100000 in
set_option maxHeartbeats 1000000 in
theorem round_up1 (a1 a2 : ByteArray) (p : Int) (h0 : nS a1 * ten p.toNat % nS a2 ≠ 0) (hp0 : 0 ≤ p) (hp : p ≤ 30) (hv : rV (a1, a2) = true) (hs : small (nS a1 * ten p.toNat) = true) (w : World) (hg : Glob w) (ha : Sz (a1, a2)) : Calls Tryz.prog 69 #[.agg #[.string a1, .string a2], .int .i64 p, .bool true] w (RatPost (rMk (nS a1 * ten p.toNat / nS a2 + 1) (ten p.toNat)) w) := by
  have Hg := Lib.hid hg
  have Hz := Lib.hid ha
  have t1 : decide (p < 0) = false := by simp; omega
  have t2 : decide (30 < p) = false := by simp; omega
  have HBAD : Hid ((false || [(a1, a2)].any fun r => !rV r) = false) := Lib.hid (by simp [*])
  have hvp := rV_parts hv
  simp only at hvp
  have HV := Lib.hid hvp
  obtain ⟨k, hk⟩ : ∃ k : Nat, p.toNat = k := ⟨_, rfl⟩
  have hk30 : k ≤ 30 := by omega
  have Hk := Lib.hid hk
  have hkp : p = (k : Int) := by omega
  have HT : Hid (ofI (ten k) = ⟨(49 :: List.replicate k 48).toArray⟩) := Lib.hid (ten_ofI (by omega))
  have HMUL : Hid (doF false (iMul a1 (ofI (ten k))) = if small (nS a1 * ten k) then (ofI (nS a1 * ten k), false) else (ByteArray.empty, true)) := Lib.hid (by rw [iMul_chk hvp.1 (by rw [ofI_ten (by omega)]; exact vS_tenT (by omega)), doF_chk, nS_ofI])
  have HVT : Hid (vS (ofI (ten k)) = true) := Lib.hid (by rw [ofI_ten (by omega)]; exact vS_tenT (by omega))
  have HRP : Hid (∀ W, Calls Tryz.prog 96 #[.string ⟨#[48]⟩, .int .i64 p] W fun e w' => e = .returned (.string ⟨(List.replicate k 48).toArray⟩) ∧ Below W.heap.size W w') := Lib.hid fun W => by
    have := libRepeat0 p W hp0 (by omega)
    rwa [hk] at this
  rw [hk] at hs h0
  rw [hk]
  have Hs := Lib.hid hs
  have hvq := vS_ediv hs (small_nS hvp.2.1) hvp.2.2.1
  have hvn := vS_small hs
  have HD : Hid (∀ W, Glob W → Calls Tryz.prog 58 #[.string (ofI (nS a1 * ten k)), .string a2] W fun e w' => e = .returned (.tuple #[.string (ofI (nS a1 * ten k / nS a2)), .string (ofI (nS a1 * ten k % nS a2)), .int .i64 0]) ∧ Below W.heap.size W w') := Lib.hid fun W hg => by
    have := intDiv_any (ofI (nS a1 * ten k)) a2 W hg (size_vS hvn) (size_vS hvp.2.1)
    rw [iDivYes hvn hvp.2.1 (by have := hvp.2.2.1; omega), nS_ofI] at this
    exact this
  have E1 := eq48 hvq.2
  rw [nS_ofI] at E1
  have HA : Hid (doF false (iAdd (ofI (nS a1 * ten k / nS a2)) ⟨#[49]⟩) = if small (nS a1 * ten k / nS a2 + 1) then (ofI (nS a1 * ten k / nS a2 + 1), false) else (ByteArray.empty, true)) := Lib.hid (by rw [iAdd_chk hvq.1 vS_one, doF_chk, nS_ofI, nS_one'])
  have HVQ := Lib.hid hvq.1
  generalize nS a1 * ten k / nS a2 = Q at *
  generalize nS a1 * ten k % nS a2 = R at *
  generalize nS a1 * ten k = M at *
  generalize ofI R = tr at *
  generalize ofI M = tm at *
  have E1' := Lib.hid E1
  have HF : Hid (∀ z bad, doF false (chkI z) = (bad : ByteArray × Bool) → redF bad.2 bad.1 (ofI (ten k)) = rMk z (ten k)) := Lib.hid (by
    rintro z bad rfl
    rw [doF_chk]
    by_cases h : small z = true
    · rw [if_pos h, redF_ofI]
    · rw [if_neg h, redF_true, rMk_no (fun h2 => h h2.1)])
  have t9 : (tr.toList == [48]) = false := by rw [E1]; simp [h0]
  clear h0
  clear hv hs hk hvp hvq hvn E1
  subst hkp
  clear hg ha
  have q0 : Blk ((((w.alloc (.cells #[.string a1, .string a2] 23)).alloc (.cells #[.string ⟨#[]⟩, .string ⟨#[]⟩] 23)).alloc (.cells #[.bool false] 78)).alloc (.cells #[.string a1, .string a2] 23)) w.heap.size #[.string a1, .string a2] 23 := (((Blk.new w _ _).alloc _).alloc _).alloc _
  have q2 : Blk ((((w.alloc (.cells #[.string a1, .string a2] 23)).alloc (.cells #[.string ⟨#[]⟩, .string ⟨#[]⟩] 23)).alloc (.cells #[.bool false] 78)).alloc (.cells #[.string a1, .string a2] 23)) (w.heap.size + 1) #[.string ⟨#[]⟩, .string ⟨#[]⟩] 23 := ((Blk.newAt _ _ _ (by simp)).alloc _).alloc _
  have q3 : Wk ((((w.alloc (.cells #[.string a1, .string a2] 23)).alloc (.cells #[.string ⟨#[]⟩, .string ⟨#[]⟩] 23)).alloc (.cells #[.bool false] 78)).alloc (.cells #[.string a1, .string a2] 23)) (w.heap.size + 2) false := (Blk.newAt _ _ _ (by simp)).alloc _
  have q4 : Blk ((((w.alloc (.cells #[.string a1, .string a2] 23)).alloc (.cells #[.string ⟨#[]⟩, .string ⟨#[]⟩] 23)).alloc (.cells #[.bool false] 78)).alloc (.cells #[.string a1, .string a2] 23)) (w.heap.size + 3) #[.string a1, .string a2] 23 := Blk.newAt _ _ _ (by simp)
  have q5 : Below w.heap.size w ((((w.alloc (.cells #[.string a1, .string a2] 23)).alloc (.cells #[.string ⟨#[]⟩, .string ⟨#[]⟩] 23)).alloc (.cells #[.bool false] 78)).alloc (.cells #[.string a1, .string a2] 23)) := ((((Below.refl _ w).alloc (Nat.le_refl _) _).alloc (by simp) _).alloc (by simp <;> omega) _).alloc (by simp <;> omega) _
  have A0 := Lib.hid q0
  have R0 := Lib.hid q2
  have K0 := Lib.hid q3
  have S0 := Lib.hid q4
  have L0 := Lib.hid q5
  have hA := Hg.out.above (b := w.heap.size + 2) (by omega)
  have Hb := Lib.hid hA
  clear q0 q2 q3 q4 q5 hA
  go_enter Tryz.func69, Tryz.ntmps69
  go_wp2_with fail
  simp only [Nat.add_assoc, Nat.reduceAdd]
  generalize ((((w.alloc (.cells #[.string a1, .string a2] 23)).alloc (.cells #[.string ⟨#[]⟩, .string ⟨#[]⟩] 23)).alloc (.cells #[.bool false] 78)).alloc (.cells #[.string a1, .string a2] 23)) = w0 at *
  refine (check_any [(a1, a2)] (w.heap.size + 3) _ (w.heap.size + 2) false _ K0.out (rdR1 S0.out) (by omega) (by simp) (Hg.out.below L0.out) Hb.out (sz1 Hz.out)).mono ?_
  rw [HBAD.out]
  rintro e w1 ⟨rfl, k1, g1⟩
  have K1 := Lib.hid k1
  have A1 := Lib.hid (Blk.other A0.out g1 (by omega))
  have R1 := Lib.hid (Blk.other R0.out g1 (by omega))
  have L1 := Lib.hid (L0.out.trans (below_of_grown g1 (by omega) L0.out.size))
  obtain ⟨a10, a11, _, _, _⟩ := blk2 A1.out
  obtain ⟨c10, c11, _⟩ := blk1 K1.out
  obtain ⟨r11, r12, r13, r14, r15⟩ := blk2 R1.out
  clear k1 g1
  clear S0
  go_wp2_with fail
  refine (HRP.out _).mono ?_
  rintro e w2 ⟨rfl, hb2⟩
  have A2 := Lib.hid (Blk.below A1.out hb2 A1.out.lt)
  have R2 := Lib.hid (Blk.below R1.out hb2 R1.out.lt)
  have K2 := Lib.hid (Blk.below K1.out hb2 K1.out.lt)
  have L2 := Lib.hid (L1.out.trans (hb2.mono L1.out.size))
  obtain ⟨a20, a21, _, _, _⟩ := blk2 A2.out
  obtain ⟨c20, c21, _⟩ := blk1 K2.out
  obtain ⟨r21, r22, r23, r24, r25⟩ := blk2 R2.out
  clear hb2
  obtain ⟨t, ht⟩ : ∃ t : ByteArray, ofI (ten k) = t := ⟨_, rfl⟩
  have Hte : Hid ((⟨#[49]⟩ ++ ⟨(List.replicate k 48).toArray⟩ : ByteArray) = t) := Lib.hid (by rw [← ht, HT.out]; apply ba_ext; simp)
  rw [ht] at HMUL HVT
  have Ht := Lib.hid ht
  clear ht HT
  go_wp2_with fail
  simp only [List.toArray_replicate] at Hte
  rw [Hte.out]
  refine (mul_any a1 t (w.heap.size + 2) false _ K2.out (fun _ => Hg.out.below L2.out) Hz.out.1 (size_vS HVT.out)).mono ?_
  rw [HMUL.out]
  rw [Hs.out]
  rintro e w3 ⟨rfl, k3, g3⟩
  simp only [if_true] at k3
  simp only [if_true]
  have K3 := Lib.hid k3
  have A3 := Lib.hid (Blk.other A2.out g3 (by omega))
  have R3 := Lib.hid (Blk.other R2.out g3 (by omega))
  have L3 := Lib.hid (L2.out.trans (below_of_grown g3 (by omega) L2.out.size))
  obtain ⟨a30, a31, _, _, _⟩ := blk2 A3.out
  obtain ⟨c30, c31, _⟩ := blk1 K3.out
  obtain ⟨r31, r32, r33, r34, r35⟩ := blk2 R3.out
  clear k3 g3
  go_wp2_with fail
  refine (HD.out _ (Hg.out.below L3.out)).mono ?_
  rintro e w4 ⟨rfl, hb4⟩
  have A4 := Lib.hid (Blk.below A3.out hb4 A3.out.lt)
  have R4 := Lib.hid (Blk.below R3.out hb4 R3.out.lt)
  have K4 := Lib.hid (Blk.below K3.out hb4 K3.out.lt)
  have L4 := Lib.hid (L3.out.trans (hb4.mono L3.out.size))
  obtain ⟨a40, a41, _, _, _⟩ := blk2 A4.out
  obtain ⟨c40, c41, _⟩ := blk1 K4.out
  obtain ⟨r41, r42, r43, r44, r45⟩ := blk2 R4.out
  clear hb4
  have HFr := Lib.hid (fun z bad h => by have := HF.out z bad h; rwa [Ht.out] at this)
  have HRX : Hid (∀ bad : ByteArray × Bool, doF false (chkI (Q + 1)) = bad → redF bad.2 bad.1 t = rMk (Q + 1) (ten k)) := Lib.hid (fun bad h => HFr.out _ _ h)
  have HVB : Hid ((doF false (iAdd (ofI Q) ⟨#[49]⟩)).2 = false → vS (doF false (iAdd (ofI Q) ⟨#[49]⟩)).1 = true) := Lib.hid (fun h => (doF_vS okAdd h).2)
  have HRX2 : Hid (redF (doF false (iAdd (ofI Q) ⟨#[49]⟩)).2 (doF false (iAdd (ofI Q) ⟨#[49]⟩)).1 t = rMk (Q + 1) (ten k)) := Lib.hid (HRX.out _ (by rw [iAdd_chk HVQ.out vS_one, nS_ofI, nS_one']))
  clear HRX HA
  generalize hx : doF false (iAdd (ofI Q) ⟨#[49]⟩) = x at *
  have Hx := Lib.hid hx
  clear hx
  generalize ofI Q = tq at *
  generalize rMk (Q + 1) (ten k) = r at *
  obtain ⟨xt, xb⟩ := x
  go_wp2_with fail
  have K5 := Lib.hid (show Wk (w4.setCell ⟨w.heap.size + 2, 0, none⟩ (.bool false)) (w.heap.size + 2) false from Blk.set K4.out 0 (.bool false))
  have A5 := Lib.hid (Blk.setOther A4.out (a := ⟨w.heap.size + 2, 0, none⟩) (by simp <;> omega) (.bool false))
  have R5 := Lib.hid (Blk.setOther R4.out (a := ⟨w.heap.size + 2, 0, none⟩) (by simp <;> omega) (.bool false))
  have L5 := Lib.hid (L4.out.setCell (p := ⟨w.heap.size + 2, 0, none⟩) (by simp <;> omega) (.bool false))
  refine (do_any _ _ opAdd tq ⟨#[49]⟩ (w.heap.size + 2) false _ K5.out (fun _ => Hg.out.below L5.out) (size_vS HVQ.out) (by decide)).mono ?_
  rw [Hx.out]
  rintro e w6 ⟨rfl, k6, g6⟩
  have K6 := Lib.hid k6
  have R6 := Lib.hid (Blk.other R5.out g6 (by omega))
  have L6 := Lib.hid (L5.out.trans (below_of_grown g6 (by omega) L5.out.size))
  clear k6 g6
  go_wp2_with fail
  refine (reduced_any _ _ (w.heap.size + 2) xb _ K6.out (fun h => ⟨HVB.out h, HVT.out, Hg.out.below L6.out⟩) Hb.out).mono ?_
  rw [show redF xb xt t = r from HRX2.out]
  rintro e wz ⟨rfl, gz⟩
  have R9 := Lib.hid (Blk.other R6.out gz (by omega))
  have L9 := Lib.hid (L6.out.trans (below_of_grown gz (by omega) L6.out.size))
  obtain ⟨r91, r92, r93, r94, r95⟩ := blk2 R9.out
  clear gz
  obtain ⟨⟨q1, q2⟩, q3⟩ := r
  go_wp2
  refine bodyPost_ret (v := vRE ((q1, q2), q3)) (by simp [results, Tryz.results69, go_sem, r91, r92, r93, r94, r95]) rfl ⟨rfl, ?_⟩
  exact (L9.out.setCell (by simp) _).setCell (by simp) _
theorem round_any (a : RS) (p : Int) (up : Bool) (w : World) (hg : Glob w) (ha : Sz a) : Calls Tryz.prog 69 #[vR a, .int .i64 p, .bool up] w (RatPost (roundF a p up) w) := by
  obtain ⟨a1, a2⟩ := a
  show Calls _ _ #[.agg #[.string a1, .string a2], _, _] _ _
  by_cases h1 : p < 0
  · have e : roundF (a1, a2) p up = (noR, 40) := by unfold roundF; rw [if_neg (by simp; omega)]
    rw [e]; exact round_neg a1 a2 p up h1 w hg ha
  by_cases h2 : 30 < p
  · have e : roundF (a1, a2) p up = (noR, 40) := by unfold roundF; rw [if_neg (by simp; omega)]
    rw [e]; exact round_big a1 a2 p up (by omega) h2 w hg ha
  cases hv : rV (a1, a2) with
  | false =>
    have e : roundF (a1, a2) p up = (noR, 40) := by unfold roundF; rw [if_neg (by simp [hv])]
    rw [e]; exact round_inv a1 a2 p up (by omega) (by omega) hv w hg ha
  | true =>
    cases hs : small (nS a1 * ten p.toNat) with
    | false =>
      have e : roundF (a1, a2) p up = (noR, 40) := by unfold roundF; rw [if_neg (by simp [hs])]
      rw [e]; exact round_no a1 a2 p up (by omega) (by omega) hv hs w hg ha
    | true =>
      have e : roundF (a1, a2) p up = rMk (if up && decide (nS a1 * ten p.toNat % nS a2 ≠ 0) then nS a1 * ten p.toNat / nS a2 + 1 else nS a1 * ten p.toNat / nS a2) (ten p.toNat) := by
        unfold roundF; rw [if_pos (by simp [hs, hv]; omega)]
      rw [e]
      cases up with
      | false => exact round_down a1 a2 p (by omega) (by omega) hv hs w hg ha
      | true =>
        by_cases h0 : nS a1 * ten p.toNat % nS a2 = 0
        · rw [if_neg (by simp [h0])]; exact round_up0 a1 a2 p h0 (by omega) (by omega) hv hs w hg ha
        · rw [if_pos (by simp [h0])]; exact round_up1 a1 a2 p h0 (by omega) (by omega) hv hs w hg ha
set_option maxRecDepth 100000 in
theorem ratDown_any (a : RS) (p : Int) (w : World) (hg : Glob w) (ha : Sz a) : Calls Tryz.prog 35 #[vR a, .int .i64 p] w (RatPost (rDown a p) w) := by
  have H := Lib.hid (fun w hg => round_any a p false w hg ha)
  rw [roundF_down] at H
  obtain ⟨a1, a2⟩ := a
  show Calls _ _ #[.agg #[.string a1, .string a2], _] _ _
  generalize rDown (a1, a2) p = r at *
  obtain ⟨⟨q1, q2⟩, q3⟩ := r
  have Hg := Lib.hid hg
  clear hg ha
  go_enter Tryz.func35, Tryz.ntmps35
  go_wp2_with fail
  refine (H.out _ (Hg.out.below (((Below.refl _ w).alloc (Nat.le_refl _) _).alloc (by simp) _))).mono ?_
  rintro e w1 ⟨rfl, hb1⟩
  have R1 := Lib.hid (Blk.below (Blk.newAt _ #[.string ⟨#[]⟩, .string ⟨#[]⟩] 23 (b := w.heap.size + 1) (by simp)) hb1 (by simp))
  have L1 := Lib.hid ((((Below.refl _ w).alloc (Nat.le_refl _) _).alloc (by simp) _).trans (hb1.mono (by simp; omega)))
  clear hb1
  obtain ⟨r1, r2, r3, r4, r5⟩ := blk2 R1.out
  go_wp2
  refine bodyPost_ret (v := vRE ((q1, q2), q3)) (by simp [results, Tryz.results35, go_sem, r1, r2, r3, r4, r5]) rfl ⟨rfl, ?_⟩
  exact (L1.out.setCell (by simp <;> omega) _).setCell (by simp <;> omega) _
set_option maxRecDepth 100000 in
theorem ratUp_any (a : RS) (p : Int) (w : World) (hg : Glob w) (ha : Sz a) : Calls Tryz.prog 37 #[vR a, .int .i64 p] w (RatPost (rUp a p) w) := by
  have H := Lib.hid (fun w hg => round_any a p true w hg ha)
  rw [roundF_up] at H
  obtain ⟨a1, a2⟩ := a
  show Calls _ _ #[.agg #[.string a1, .string a2], _] _ _
  generalize rUp (a1, a2) p = r at *
  obtain ⟨⟨q1, q2⟩, q3⟩ := r
  have Hg := Lib.hid hg
  clear hg ha
  go_enter Tryz.func37, Tryz.ntmps37
  go_wp2_with fail
  refine (H.out _ (Hg.out.below (((Below.refl _ w).alloc (Nat.le_refl _) _).alloc (by simp) _))).mono ?_
  rintro e w1 ⟨rfl, hb1⟩
  have R1 := Lib.hid (Blk.below (Blk.newAt _ #[.string ⟨#[]⟩, .string ⟨#[]⟩] 23 (b := w.heap.size + 1) (by simp)) hb1 (by simp))
  have L1 := Lib.hid ((((Below.refl _ w).alloc (Nat.le_refl _) _).alloc (by simp) _).trans (hb1.mono (by simp; omega)))
  clear hb1
  obtain ⟨r1, r2, r3, r4, r5⟩ := blk2 R1.out
  go_wp2
  refine bodyPost_ret (v := vRE ((q1, q2), q3)) (by simp [results, Tryz.results37, go_sem, r1, r2, r3, r4, r5]) rfl ⟨rfl, ?_⟩
  exact (L1.out.setCell (by simp <;> omega) _).setCell (by simp <;> omega) _
end Go.Proofs.YtgeoidnleagloaaGreatDoor
