/- Walks of the reference's fractions: Valid, Make, Of. -/
import Derived.Test.YtgeoidnleagloaaGreatDoorRX
import Derived.Test.YtgeoidnleagloaaGreatDoorQE
set_option linter.unusedVariables false
set_option linter.unusedSimpArgs false
namespace Go.Proofs.YtgeoidnleagloaaGreatDoor
open Go.RowKit Yk

theorem refValid_is {s : ByteArray} {b : Bool} (h : vS s = b) (w : World) (hs : s.size ≤ maxLen) : Calls Tryz.prog 53 #[.string s] w fun e w' => e = .returned (.bool b) ∧ w = w' := by
  have := refValid_any s w hs; subst h; exact this
set_option maxRecDepth 100000 in
set_option maxHeartbeats 1000000 in
theorem rv_no1 (n d : ByteArray) (hn : vS n = false) (b : Bool) (hd : vS d = b) (w : World) (hs1 : n.size ≤ maxLen) (hs2 : d.size ≤ maxLen) :
    Calls Tryz.prog 40 #[.agg #[.string n, .string d]] w fun e w' => e = .returned (.bool false) ∧ Below w.heap.size w w' := by
  have H1 := Lib.hid (fun w => refValid_is hn w hs1)
  have H2 := Lib.hid (fun w => refValid_is hd w hs2)
  clear hn hd hs1 hs2
  have q0 : Blk (w.alloc (.cells #[.string n, .string d] 23)) (w.heap.size) #[.string n, .string d] 23 := Blk.new w _ _
  have qL : Below w.heap.size w (w.alloc (.cells #[.string n, .string d] 23)) := (Below.refl _ w).alloc (Nat.le_refl _) _
  have A0 := Lib.hid q0
  have L0 := Lib.hid qL
  clear qL q0
  go_enter Tryz.func40, Tryz.ntmps40
  go_wp2_with fail
  try simp only [Nat.add_assoc, Nat.reduceAdd]
  generalize (w.alloc (.cells #[.string n, .string d] 23)) = w0 at *
  obtain ⟨a00, a01, a0f, a0g, a0l⟩ := blk2 A0.out
  refine (H1.out _).mono ?_
  rintro e wx ⟨rfl, rfl⟩
  go_wp2_with fail
  refine (H2.out _).mono ?_
  rintro e wx ⟨rfl, rfl⟩
  cases b
  all_goals go_wp2
  all_goals go_ret
  all_goals exact ⟨rfl, L0.out⟩
set_option maxRecDepth 100000 in
set_option maxHeartbeats 1000000 in
theorem rv_no2 (n d : ByteArray) (hn : vS n = true) (hd : vS d = false) (w : World) (hs1 : n.size ≤ maxLen) (hs2 : d.size ≤ maxLen) :
    Calls Tryz.prog 40 #[.agg #[.string n, .string d]] w fun e w' => e = .returned (.bool false) ∧ Below w.heap.size w w' := by
  have H1 := Lib.hid (fun w => refValid_is hn w hs1)
  have H2 := Lib.hid (fun w => refValid_is hd w hs2)
  clear hn hd hs1 hs2
  have q0 : Blk (w.alloc (.cells #[.string n, .string d] 23)) (w.heap.size) #[.string n, .string d] 23 := Blk.new w _ _
  have qL : Below w.heap.size w (w.alloc (.cells #[.string n, .string d] 23)) := (Below.refl _ w).alloc (Nat.le_refl _) _
  have A0 := Lib.hid q0
  have L0 := Lib.hid qL
  clear qL q0
  go_enter Tryz.func40, Tryz.ntmps40
  go_wp2_with fail
  try simp only [Nat.add_assoc, Nat.reduceAdd]
  generalize (w.alloc (.cells #[.string n, .string d] 23)) = w0 at *
  obtain ⟨a00, a01, a0f, a0g, a0l⟩ := blk2 A0.out
  refine (H1.out _).mono ?_
  rintro e wx ⟨rfl, rfl⟩
  go_wp2_with fail
  refine (H2.out _).mono ?_
  rintro e wx ⟨rfl, rfl⟩
  go_wp2
  go_ret
  exact ⟨rfl, L0.out⟩
set_option maxRecDepth 100000 in
set_option maxHeartbeats 1000000 in
theorem rv_no3 (n d : ByteArray) (hn : vS n = true) (hd : vS d = true) (h0 : ¬ 0 < nS d) (w : World) (hs1 : n.size ≤ maxLen) (hs2 : d.size ≤ maxLen) :
    Calls Tryz.prog 40 #[.agg #[.string n, .string d]] w fun e w' => e = .returned (.bool false) ∧ Below w.heap.size w w' := by
  have H1 := Lib.hid (fun w => refValid_is hn w hs1)
  have H2 := Lib.hid (fun w => refValid_is hd w hs2)
  have H3 := Lib.hid (fun w => refCompare_any d ⟨#[48]⟩ w hs2 (by decide))
  rw [iCmp_zero hd] at H3
  obtain ⟨cv, hcv⟩ : ∃ c, cmpI (nS d) 0 = c := ⟨_, rfl⟩
  rw [hcv] at H3
  have hc : cv ≤ 0 := by { rw [← hcv]; unfold cmpI; split <;> omega }
  clear hn hd hs1 hs2 h0 hcv
  have q0 : Blk (w.alloc (.cells #[.string n, .string d] 23)) (w.heap.size) #[.string n, .string d] 23 := Blk.new w _ _
  have qL : Below w.heap.size w (w.alloc (.cells #[.string n, .string d] 23)) := (Below.refl _ w).alloc (Nat.le_refl _) _
  have A0 := Lib.hid q0
  have L0 := Lib.hid qL
  clear qL q0
  go_enter Tryz.func40, Tryz.ntmps40
  go_wp2_with fail
  try simp only [Nat.add_assoc, Nat.reduceAdd]
  generalize (w.alloc (.cells #[.string n, .string d] 23)) = w0 at *
  obtain ⟨a00, a01, a0f, a0g, a0l⟩ := blk2 A0.out
  refine (H1.out _).mono ?_
  rintro e wx ⟨rfl, rfl⟩
  go_wp2_with fail
  refine (H2.out _).mono ?_
  rintro e wx ⟨rfl, rfl⟩
  go_wp2_with fail
  refine (H3.out _).mono ?_
  rintro e w1 ⟨rfl, hb1⟩
  have A1 := Lib.hid (Blk.below A0.out hb1 A0.out.lt)
  have L1 := Lib.hid (L0.out.trans (hb1.mono L0.out.size))
  clear hb1
  obtain ⟨a10, a11, a1f, a1g, a1l⟩ := blk2 A1.out
  go_wp2
  go_ret
  exact ⟨rfl, L1.out⟩
set_option maxRecDepth 100000 in
set_option maxHeartbeats 1000000 in
theorem rv_yes (n d : ByteArray) (hn : vS n = true) (hd : vS d = true) (h0 : 0 < nS d) (w : World) (hs1 : n.size ≤ maxLen) (hs2 : d.size ≤ maxLen) :
    Calls Tryz.prog 40 #[.agg #[.string n, .string d]] w fun e w' => e = .returned (.bool (decide (Int.gcd (nS n) (nS d) = 1))) ∧ Below w.heap.size w w' := by
  have H1 := Lib.hid (fun w => refValid_is hn w hs1)
  have H2 := Lib.hid (fun w => refValid_is hd w hs2)
  have H3 := Lib.hid (fun w => refCompare_any d ⟨#[48]⟩ w hs2 (by decide))
  rw [iCmp_zero hd] at H3
  obtain ⟨cv, hcv⟩ : ∃ c, cmpI (nS d) 0 = c := ⟨_, rfl⟩
  rw [hcv] at H3
  have hc : ¬ cv ≤ 0 := by { rw [← hcv]; unfold cmpI; split <;> first | omega | (split <;> omega) }
  have H4 := Lib.hid (fun w => refGcd_any n d w hs1 hs2)
  have hgd : iGcd n d = (ofI (Int.gcd (nS n) (nS d)), 0) := by unfold iGcd; rw [if_pos (by simp [hn, hd])]
  rw [hgd] at H4
  have hsm : vS (ofI (Int.gcd (nS n) (nS d))) = true := vS_ofI (by rw [Int.natAbs_natCast]; exact gcd_lt (nS_lt hn) (nS_lt hd))
  have heq := eq49 hsm
  rw [nS_ofI] at heq
  have hr : decide (Int.gcd (nS n) (nS d) = 1) = ((ofI (Int.gcd (nS n) (nS d) : Int)).toList == [49]) := by rw [heq, decide_eq_decide]; omega
  rw [hr]
  generalize ofI (Int.gcd (nS n) (nS d) : Int) = g at *
  obtain ⟨bv, hbv⟩ : ∃ b, (g.toList == [49]) = b := ⟨_, rfl⟩
  rw [hbv]
  clear hn hd hs1 hs2 h0 hcv hgd hsm heq hr
  have q0 : Blk (w.alloc (.cells #[.string n, .string d] 23)) (w.heap.size) #[.string n, .string d] 23 := Blk.new w _ _
  have qL : Below w.heap.size w (w.alloc (.cells #[.string n, .string d] 23)) := (Below.refl _ w).alloc (Nat.le_refl _) _
  have A0 := Lib.hid q0
  have L0 := Lib.hid qL
  clear qL q0
  go_enter Tryz.func40, Tryz.ntmps40
  go_wp2_with fail
  try simp only [Nat.add_assoc, Nat.reduceAdd]
  generalize (w.alloc (.cells #[.string n, .string d] 23)) = w0 at *
  obtain ⟨a00, a01, a0f, a0g, a0l⟩ := blk2 A0.out
  refine (H1.out _).mono ?_
  rintro e wx ⟨rfl, rfl⟩
  go_wp2_with fail
  refine (H2.out _).mono ?_
  rintro e wx ⟨rfl, rfl⟩
  go_wp2_with fail
  refine (H3.out _).mono ?_
  rintro e w1 ⟨rfl, hb1⟩
  have A1 := Lib.hid (Blk.below A0.out hb1 A0.out.lt)
  have L1 := Lib.hid (L0.out.trans (hb1.mono L0.out.size))
  clear hb1
  obtain ⟨a10, a11, a1f, a1g, a1l⟩ := blk2 A1.out
  go_wp2_with fail
  refine (H4.out _).mono ?_
  rintro e w2 ⟨rfl, hb2⟩
  have A2 := Lib.hid (Blk.below A1.out hb2 A1.out.lt)
  have L2 := Lib.hid (L1.out.trans (hb2.mono L1.out.size))
  clear hb2
  obtain ⟨a20, a21, a2f, a2g, a2l⟩ := blk2 A2.out
  go_wp2
  go_ret
  exact ⟨rfl, L2.out⟩
theorem ref4Valid_any (a : RS) (w : World) (ha : Sz a) : Calls Tryz.prog 40 #[vR a] w fun e w' => e = .returned (.bool (rV a)) ∧ Below w.heap.size w w' := by
  obtain ⟨n, d⟩ := a
  show Calls _ _ #[.agg #[.string n, .string d]] _ _
  cases hn : vS n with
  | false =>
    have hr : rV (n, d) = false := by simp [rV, hn]
    rw [hr]; exact rv_no1 n d hn _ rfl w ha.1 ha.2
  | true =>
    cases hd : vS d with
    | false =>
      have hr : rV (n, d) = false := by simp [rV, hd]
      rw [hr]; exact rv_no2 n d hn hd w ha.1 ha.2
    | true =>
      by_cases h0 : 0 < nS d
      · have hr : rV (n, d) = decide (Int.gcd (nS n) (nS d) = 1) := by simp [rV, hn, hd, h0]
        rw [hr]; exact rv_yes n d hn hd h0 w ha.1 ha.2
      · have hr : rV (n, d) = false := by simp [rV, h0]
        rw [hr]; exact rv_no3 n d hn hd h0 w ha.1 ha.2
set_option maxRecDepth 100000 in
set_option maxHeartbeats 1000000 in
theorem rm_no1 (n d : ByteArray) (hn : vS n = false) (b : Bool) (hd : vS d = b) (w : World) (hs1 : n.size ≤ maxLen) (hs2 : d.size ≤ maxLen) :
    Calls Tryz.prog 39 #[.string n, .string d] w (RatPost (noR, 40) w) := by
  have H1 := Lib.hid (fun w => refValid_is hn w hs1)
  have H2 := Lib.hid (fun w => refValid_is hd w hs2)
  clear hn hd hs1 hs2
  have q0 : Blk (w.alloc (.cells #[.string ⟨#[]⟩, .string ⟨#[]⟩] 23)) (w.heap.size) #[.string ⟨#[]⟩, .string ⟨#[]⟩] 23 := Blk.new w _ _
  have qL : Below w.heap.size w (w.alloc (.cells #[.string ⟨#[]⟩, .string ⟨#[]⟩] 23)) := (Below.refl _ w).alloc (Nat.le_refl _) _
  have R0 := Lib.hid q0
  have L0 := Lib.hid qL
  clear qL q0
  go_enter Tryz.func39, Tryz.ntmps39
  go_wp2_with fail
  try simp only [Nat.add_assoc, Nat.reduceAdd]
  generalize (w.alloc (.cells #[.string ⟨#[]⟩, .string ⟨#[]⟩] 23)) = w0 at *
  obtain ⟨r00, r01, r0f, r0g, r0l⟩ := blk2 R0.out
  refine (H1.out _).mono ?_
  rintro e wx ⟨rfl, rfl⟩
  go_wp2_with fail
  refine (H2.out _).mono ?_
  rintro e wx ⟨rfl, rfl⟩
  cases b
  · skip
    go_wp2
    refine bodyPost_ret (v := vRE (noR, 40)) (by simp [results, Tryz.results39, go_sem, noR, r00, r01, r0f, r0g, r0l]; rfl) rfl ⟨rfl, ?_⟩
    exact (L0.out.setCell (by simp) _).setCell (by simp) _
  · skip
    go_wp2
    refine bodyPost_ret (v := vRE (noR, 40)) (by simp [results, Tryz.results39, go_sem, noR, r00, r01, r0f, r0g, r0l]; rfl) rfl ⟨rfl, ?_⟩
    exact (L0.out.setCell (by simp) _).setCell (by simp) _
set_option maxRecDepth 100000 in
set_option maxHeartbeats 1000000 in
theorem rm_no2 (n d : ByteArray) (hn : vS n = true) (hd : vS d = false) (w : World) (hs1 : n.size ≤ maxLen) (hs2 : d.size ≤ maxLen) :
    Calls Tryz.prog 39 #[.string n, .string d] w (RatPost (noR, 40) w) := by
  have H1 := Lib.hid (fun w => refValid_is hn w hs1)
  have H2 := Lib.hid (fun w => refValid_is hd w hs2)
  clear hn hd hs1 hs2
  have q0 : Blk (w.alloc (.cells #[.string ⟨#[]⟩, .string ⟨#[]⟩] 23)) (w.heap.size) #[.string ⟨#[]⟩, .string ⟨#[]⟩] 23 := Blk.new w _ _
  have qL : Below w.heap.size w (w.alloc (.cells #[.string ⟨#[]⟩, .string ⟨#[]⟩] 23)) := (Below.refl _ w).alloc (Nat.le_refl _) _
  have R0 := Lib.hid q0
  have L0 := Lib.hid qL
  clear qL q0
  go_enter Tryz.func39, Tryz.ntmps39
  go_wp2_with fail
  try simp only [Nat.add_assoc, Nat.reduceAdd]
  generalize (w.alloc (.cells #[.string ⟨#[]⟩, .string ⟨#[]⟩] 23)) = w0 at *
  obtain ⟨r00, r01, r0f, r0g, r0l⟩ := blk2 R0.out
  refine (H1.out _).mono ?_
  rintro e wx ⟨rfl, rfl⟩
  go_wp2_with fail
  refine (H2.out _).mono ?_
  rintro e wx ⟨rfl, rfl⟩
  go_wp2
  refine bodyPost_ret (v := vRE (noR, 40)) (by simp [results, Tryz.results39, go_sem, noR, r00, r01, r0f, r0g, r0l]; rfl) rfl ⟨rfl, ?_⟩
  exact (L0.out.setCell (by simp) _).setCell (by simp) _
set_option maxRecDepth 100000 in
set_option maxHeartbeats 1000000 in
theorem rm_zero (n d : ByteArray) (hn : vS n = true) (hd : vS d = true) (h0 : nS d = 0) (w : World) (hs1 : n.size ≤ maxLen) (hs2 : d.size ≤ maxLen) :
    Calls Tryz.prog 39 #[.string n, .string d] w (RatPost (noR, 40) w) := by
  have H1 := Lib.hid (fun w => refValid_is hn w hs1)
  have H2 := Lib.hid (fun w => refValid_is hd w hs2)
  have c4 : (d.toList == [48]) = true := by rw [eq48 hd]; simp [h0]
  clear hn hd hs1 hs2 h0
  have q0 : Blk (w.alloc (.cells #[.string ⟨#[]⟩, .string ⟨#[]⟩] 23)) (w.heap.size) #[.string ⟨#[]⟩, .string ⟨#[]⟩] 23 := Blk.new w _ _
  have qL : Below w.heap.size w (w.alloc (.cells #[.string ⟨#[]⟩, .string ⟨#[]⟩] 23)) := (Below.refl _ w).alloc (Nat.le_refl _) _
  have R0 := Lib.hid q0
  have L0 := Lib.hid qL
  clear qL q0
  go_enter Tryz.func39, Tryz.ntmps39
  go_wp2_with fail
  try simp only [Nat.add_assoc, Nat.reduceAdd]
  generalize (w.alloc (.cells #[.string ⟨#[]⟩, .string ⟨#[]⟩] 23)) = w0 at *
  obtain ⟨r00, r01, r0f, r0g, r0l⟩ := blk2 R0.out
  refine (H1.out _).mono ?_
  rintro e wx ⟨rfl, rfl⟩
  go_wp2_with fail
  refine (H2.out _).mono ?_
  rintro e wx ⟨rfl, rfl⟩
  go_wp2
  refine bodyPost_ret (v := vRE (noR, 40)) (by simp [results, Tryz.results39, go_sem, noR, r00, r01, r0f, r0g, r0l]; rfl) rfl ⟨rfl, ?_⟩
  exact (L0.out.setCell (by simp) _).setCell (by simp) _
set_option maxRecDepth 100000 in
set_option maxHeartbeats 1000000 in
theorem rm_pos (n d : ByteArray) (hn : vS n = true) (hd : vS d = true) (h0 : 0 < nS d) (w : World) (hs1 : n.size ≤ maxLen) (hs2 : d.size ≤ maxLen) :
    Calls Tryz.prog 39 #[.string n, .string d] w (RatPost (redF false n d) w) := by
  have H1 := Lib.hid (fun w => refValid_is hn w hs1)
  have H2 := Lib.hid (fun w => refValid_is hd w hs2)
  have H3 := Lib.hid (fun w => refCompare_any d ⟨#[48]⟩ w hs2 (by decide))
  rw [iCmp_zero hd] at H3
  obtain ⟨cv, hcv⟩ : ∃ c, cmpI (nS d) 0 = c := ⟨_, rfl⟩
  rw [hcv] at H3
  rw [red_pos hn hd h0]
  have c4 : (d.toList == [48]) = false := by rw [eq48 hd]; simp; omega
  have hc : ¬ cv < 0 := by { rw [← hcv]; unfold cmpI; split <;> first | omega | (split <;> omega) }
  have hnB := nS_lt hn
  have hdB := nS_lt hd
  have hn' : vS (ofI (nS n)) = true := by rw [ofI_nS hn]; exact hn
  have hd' : vS (ofI (nS d)) = true := by rw [ofI_nS hd]; exact hd
  have hsg : vS (ofI (Int.gcd (nS n) (nS d) : Int)) = true := gcd_vS hnB hdB
  have hg0 : nS (ofI (Int.gcd (nS n) (nS d) : Int)) ≠ 0 := by
    rw [nS_ofI]
    have : 0 < Int.gcd (nS n) (nS d) := Int.gcd_pos_of_ne_zero_right _ (by omega)
    omega
  have S3 : Hid (∀ W, Calls Tryz.prog 71 #[.string (ofI (nS n)), .string (ofI (nS d))] W fun e w' => e = .returned (vSE (ofI (Int.gcd (nS n) (nS d)), 0)) ∧ Below W.heap.size W w') := Lib.hid fun W => by
    have := refGcd_any (ofI (nS n)) (ofI (nS d)) W (size_vS hn') (size_vS hd')
    have e : iGcd (ofI (nS n)) (ofI (nS d)) = (ofI (Int.gcd (nS n) (nS d)), 0) := by unfold iGcd; rw [if_pos (by simp [hn', hd']), nS_ofI, nS_ofI]
    rwa [e] at this
  have S4 : Hid (∀ W, Calls Tryz.prog 66 #[.string (ofI (nS n)), .string (ofI (Int.gcd (nS n) (nS d) : Int))] W fun e w' => e = .returned (vDiv (ofI ((nS n) / (Int.gcd (nS n) (nS d) : Int)), ofI ((nS n) % (Int.gcd (nS n) (nS d) : Int)), 0)) ∧ Below W.heap.size W w') := Lib.hid fun W => by
    have := refDiv_any (ofI (nS n)) (ofI (Int.gcd (nS n) (nS d) : Int)) W (size_vS hn') (size_vS hsg)
    rwa [iDiv_yes hn' hsg hg0, nS_ofI, nS_ofI] at this
  have S5 : Hid (∀ W, Calls Tryz.prog 66 #[.string (ofI (nS d)), .string (ofI (Int.gcd (nS n) (nS d) : Int))] W fun e w' => e = .returned (vDiv (ofI ((nS d) / (Int.gcd (nS n) (nS d) : Int)), ofI ((nS d) % (Int.gcd (nS n) (nS d) : Int)), 0)) ∧ Below W.heap.size W w') := Lib.hid fun W => by
    have := refDiv_any (ofI (nS d)) (ofI (Int.gcd (nS n) (nS d) : Int)) W (size_vS hd') (size_vS hsg)
    rwa [iDiv_yes hd' hsg hg0, nS_ofI, nS_ofI] at this
  rw [ofI_nS hn] at S3 S4
  rw [ofI_nS hd] at S3 S5
  generalize ofI (nS n / (Int.gcd (nS n) (nS d) : Int)) = q1 at *
  generalize ofI (nS d / (Int.gcd (nS n) (nS d) : Int)) = q2 at *
  generalize ofI (nS n % (Int.gcd (nS n) (nS d) : Int)) = r1 at *
  generalize ofI (nS d % (Int.gcd (nS n) (nS d) : Int)) = r2 at *
  generalize ofI (Int.gcd (nS n) (nS d) : Int) = g at *
  clear hn hd hs1 hs2 h0 hcv hnB hdB hn' hd' hsg hg0
  have q0 : Blk (w.alloc (.cells #[.string ⟨#[]⟩, .string ⟨#[]⟩] 23)) (w.heap.size) #[.string ⟨#[]⟩, .string ⟨#[]⟩] 23 := Blk.new w _ _
  have qL : Below w.heap.size w (w.alloc (.cells #[.string ⟨#[]⟩, .string ⟨#[]⟩] 23)) := (Below.refl _ w).alloc (Nat.le_refl _) _
  have R0 := Lib.hid q0
  have L0 := Lib.hid qL
  clear qL q0
  go_enter Tryz.func39, Tryz.ntmps39
  go_wp2_with fail
  try simp only [Nat.add_assoc, Nat.reduceAdd]
  generalize (w.alloc (.cells #[.string ⟨#[]⟩, .string ⟨#[]⟩] 23)) = w0 at *
  obtain ⟨r00, r01, r0f, r0g, r0l⟩ := blk2 R0.out
  refine (H1.out _).mono ?_
  rintro e wx ⟨rfl, rfl⟩
  go_wp2_with fail
  refine (H2.out _).mono ?_
  rintro e wx ⟨rfl, rfl⟩
  go_wp2_with fail
  refine (H3.out _).mono ?_
  rintro e w1 ⟨rfl, hb1⟩
  have R1 := Lib.hid (Blk.below R0.out hb1 R0.out.lt)
  have L1 := Lib.hid (L0.out.trans (hb1.mono L0.out.size))
  clear hb1
  obtain ⟨r10, r11, r1f, r1g, r1l⟩ := blk2 R1.out
  go_wp2_with fail
  refine (S3.out _).mono ?_
  rintro e w2 ⟨rfl, hb2⟩
  have R2 := Lib.hid (Blk.below R1.out hb2 R1.out.lt)
  have L2 := Lib.hid (L1.out.trans (hb2.mono L1.out.size))
  clear hb2
  obtain ⟨r20, r21, r2f, r2g, r2l⟩ := blk2 R2.out
  go_wp2_with fail
  refine (S4.out _).mono ?_
  rintro e w3 ⟨rfl, hb3⟩
  have R3 := Lib.hid (Blk.below R2.out hb3 R2.out.lt)
  have L3 := Lib.hid (L2.out.trans (hb3.mono L2.out.size))
  clear hb3
  obtain ⟨r30, r31, r3f, r3g, r3l⟩ := blk2 R3.out
  go_wp2_with fail
  refine (S5.out _).mono ?_
  rintro e w4 ⟨rfl, hb4⟩
  have R4 := Lib.hid (Blk.below R3.out hb4 R3.out.lt)
  have L4 := Lib.hid (L3.out.trans (hb4.mono L3.out.size))
  clear hb4
  obtain ⟨r40, r41, r4f, r4g, r4l⟩ := blk2 R4.out
  go_wp2
  refine bodyPost_ret (v := vRE ((q1, q2), 0)) (by simp [results, Tryz.results39, go_sem, r40, r41, r4f, r4g, r4l]) rfl ⟨rfl, ?_⟩
  exact (L4.out.setCell (by simp) _).setCell (by simp) _
set_option maxRecDepth 100000 in
set_option maxHeartbeats 1000000 in
theorem rm_neg (n d : ByteArray) (hn : vS n = true) (hd : vS d = true) (h0 : nS d < 0) (w : World) (hs1 : n.size ≤ maxLen) (hs2 : d.size ≤ maxLen) :
    Calls Tryz.prog 39 #[.string n, .string d] w (RatPost (redF false n d) w) := by
  have H1 := Lib.hid (fun w => refValid_is hn w hs1)
  have H2 := Lib.hid (fun w => refValid_is hd w hs2)
  have H3 := Lib.hid (fun w => refCompare_any d ⟨#[48]⟩ w hs2 (by decide))
  rw [iCmp_zero hd] at H3
  obtain ⟨cv, hcv⟩ : ∃ c, cmpI (nS d) 0 = c := ⟨_, rfl⟩
  rw [hcv] at H3
  rw [red_neg hn hd h0]
  have c4 : (d.toList == [48]) = false := by rw [eq48 hd]; simp; omega
  have hc : cv < 0 := by { rw [← hcv]; unfold cmpI; split <;> first | omega | (split <;> omega) }
  have hnB := nS_lt hn
  have hdB := nS_lt hd
  have hn' : vS (ofI (-nS n)) = true := vS_ofI (by rw [Int.natAbs_neg]; exact hnB)
  have hd' : vS (ofI (-nS d)) = true := vS_ofI (by rw [Int.natAbs_neg]; exact hdB)
  have S1 : Hid (∀ W, Calls Tryz.prog 65 #[.string ⟨#[48]⟩, .string n] W fun e w' => e = .returned (vSE (ofI (-nS n), 0)) ∧ Below W.heap.size W w') := Lib.hid fun W => by
    have := refSub_any ⟨#[48]⟩ n W (by decide) hs1
    rwa [iSub_chk vS_zero hn, nS_zero', Int.zero_sub, chkI_ok (by rw [Int.natAbs_neg]; exact hnB)] at this
  have S2 : Hid (∀ W, Calls Tryz.prog 65 #[.string ⟨#[48]⟩, .string d] W fun e w' => e = .returned (vSE (ofI (-nS d), 0)) ∧ Below W.heap.size W w') := Lib.hid fun W => by
    have := refSub_any ⟨#[48]⟩ d W (by decide) hs2
    rwa [iSub_chk vS_zero hd, nS_zero', Int.zero_sub, chkI_ok (by rw [Int.natAbs_neg]; exact hdB)] at this
  have hsg : vS (ofI (Int.gcd (-nS n) (-nS d) : Int)) = true := gcd_vS (by rw [Int.natAbs_neg]; exact hnB) (by rw [Int.natAbs_neg]; exact hdB)
  have hg0 : nS (ofI (Int.gcd (-nS n) (-nS d) : Int)) ≠ 0 := by
    rw [nS_ofI]
    have : 0 < Int.gcd (-nS n) (-nS d) := Int.gcd_pos_of_ne_zero_right _ (by omega)
    omega
  have S3 : Hid (∀ W, Calls Tryz.prog 71 #[.string (ofI (-nS n)), .string (ofI (-nS d))] W fun e w' => e = .returned (vSE (ofI (Int.gcd (-nS n) (-nS d)), 0)) ∧ Below W.heap.size W w') := Lib.hid fun W => by
    have := refGcd_any (ofI (-nS n)) (ofI (-nS d)) W (size_vS hn') (size_vS hd')
    have e : iGcd (ofI (-nS n)) (ofI (-nS d)) = (ofI (Int.gcd (-nS n) (-nS d)), 0) := by unfold iGcd; rw [if_pos (by simp [hn', hd']), nS_ofI, nS_ofI]
    rwa [e] at this
  have S4 : Hid (∀ W, Calls Tryz.prog 66 #[.string (ofI (-nS n)), .string (ofI (Int.gcd (-nS n) (-nS d) : Int))] W fun e w' => e = .returned (vDiv (ofI ((-nS n) / (Int.gcd (-nS n) (-nS d) : Int)), ofI ((-nS n) % (Int.gcd (-nS n) (-nS d) : Int)), 0)) ∧ Below W.heap.size W w') := Lib.hid fun W => by
    have := refDiv_any (ofI (-nS n)) (ofI (Int.gcd (-nS n) (-nS d) : Int)) W (size_vS hn') (size_vS hsg)
    rwa [iDiv_yes hn' hsg hg0, nS_ofI, nS_ofI] at this
  have S5 : Hid (∀ W, Calls Tryz.prog 66 #[.string (ofI (-nS d)), .string (ofI (Int.gcd (-nS n) (-nS d) : Int))] W fun e w' => e = .returned (vDiv (ofI ((-nS d) / (Int.gcd (-nS n) (-nS d) : Int)), ofI ((-nS d) % (Int.gcd (-nS n) (-nS d) : Int)), 0)) ∧ Below W.heap.size W w') := Lib.hid fun W => by
    have := refDiv_any (ofI (-nS d)) (ofI (Int.gcd (-nS n) (-nS d) : Int)) W (size_vS hd') (size_vS hsg)
    rwa [iDiv_yes hd' hsg hg0, nS_ofI, nS_ofI] at this
  generalize ofI ((-nS n) / (Int.gcd (-nS n) (-nS d) : Int)) = q1 at *
  generalize ofI ((-nS d) / (Int.gcd (-nS n) (-nS d) : Int)) = q2 at *
  generalize ofI ((-nS n) % (Int.gcd (-nS n) (-nS d) : Int)) = r1 at *
  generalize ofI ((-nS d) % (Int.gcd (-nS n) (-nS d) : Int)) = r2 at *
  generalize ofI (Int.gcd (-nS n) (-nS d) : Int) = g at *
  generalize ofI (-nS n) = n' at *
  generalize ofI (-nS d) = d' at *
  clear hn hd hs1 hs2 h0 hcv hnB hdB hn' hd' hsg hg0
  have q0 : Blk (w.alloc (.cells #[.string ⟨#[]⟩, .string ⟨#[]⟩] 23)) (w.heap.size) #[.string ⟨#[]⟩, .string ⟨#[]⟩] 23 := Blk.new w _ _
  have qL : Below w.heap.size w (w.alloc (.cells #[.string ⟨#[]⟩, .string ⟨#[]⟩] 23)) := (Below.refl _ w).alloc (Nat.le_refl _) _
  have R0 := Lib.hid q0
  have L0 := Lib.hid qL
  clear qL q0
  go_enter Tryz.func39, Tryz.ntmps39
  go_wp2_with fail
  try simp only [Nat.add_assoc, Nat.reduceAdd]
  generalize (w.alloc (.cells #[.string ⟨#[]⟩, .string ⟨#[]⟩] 23)) = w0 at *
  obtain ⟨r00, r01, r0f, r0g, r0l⟩ := blk2 R0.out
  refine (H1.out _).mono ?_
  rintro e wx ⟨rfl, rfl⟩
  go_wp2_with fail
  refine (H2.out _).mono ?_
  rintro e wx ⟨rfl, rfl⟩
  go_wp2_with fail
  refine (H3.out _).mono ?_
  rintro e w1 ⟨rfl, hb1⟩
  have R1 := Lib.hid (Blk.below R0.out hb1 R0.out.lt)
  have L1 := Lib.hid (L0.out.trans (hb1.mono L0.out.size))
  clear hb1
  obtain ⟨r10, r11, r1f, r1g, r1l⟩ := blk2 R1.out
  go_wp2_with fail
  refine (S1.out _).mono ?_
  rintro e w2 ⟨rfl, hb2⟩
  have R2 := Lib.hid (Blk.below R1.out hb2 R1.out.lt)
  have L2 := Lib.hid (L1.out.trans (hb2.mono L1.out.size))
  clear hb2
  obtain ⟨r20, r21, r2f, r2g, r2l⟩ := blk2 R2.out
  go_wp2_with fail
  refine (S2.out _).mono ?_
  rintro e w3 ⟨rfl, hb3⟩
  have R3 := Lib.hid (Blk.below R2.out hb3 R2.out.lt)
  have L3 := Lib.hid (L2.out.trans (hb3.mono L2.out.size))
  clear hb3
  obtain ⟨r30, r31, r3f, r3g, r3l⟩ := blk2 R3.out
  go_wp2_with fail
  refine (S3.out _).mono ?_
  rintro e w4 ⟨rfl, hb4⟩
  have R4 := Lib.hid (Blk.below R3.out hb4 R3.out.lt)
  have L4 := Lib.hid (L3.out.trans (hb4.mono L3.out.size))
  clear hb4
  obtain ⟨r40, r41, r4f, r4g, r4l⟩ := blk2 R4.out
  go_wp2_with fail
  refine (S4.out _).mono ?_
  rintro e w5 ⟨rfl, hb5⟩
  have R5 := Lib.hid (Blk.below R4.out hb5 R4.out.lt)
  have L5 := Lib.hid (L4.out.trans (hb5.mono L4.out.size))
  clear hb5
  obtain ⟨r50, r51, r5f, r5g, r5l⟩ := blk2 R5.out
  go_wp2_with fail
  refine (S5.out _).mono ?_
  rintro e w6 ⟨rfl, hb6⟩
  have R6 := Lib.hid (Blk.below R5.out hb6 R5.out.lt)
  have L6 := Lib.hid (L5.out.trans (hb6.mono L5.out.size))
  clear hb6
  obtain ⟨r60, r61, r6f, r6g, r6l⟩ := blk2 R6.out
  go_wp2
  refine bodyPost_ret (v := vRE ((q1, q2), 0)) (by simp [results, Tryz.results39, go_sem, r60, r61, r6f, r6g, r6l]) rfl ⟨rfl, ?_⟩
  exact (L6.out.setCell (by simp) _).setCell (by simp) _
theorem ref4Make_any (n d : ByteArray) (w : World) (hs1 : n.size ≤ maxLen) (hs2 : d.size ≤ maxLen) : Calls Tryz.prog 39 #[.string n, .string d] w (RatPost (rMake n d) w) := by
  have no : (vS n && vS d) = false ∨ nS d = 0 → rMake n d = (noR, 40) := by
    intro h
    unfold rMake
    rw [if_neg]
    rcases h with h | h
    · rw [h]; simp
    · simp [h]
  cases hn : vS n with
  | false => rw [no (.inl (by simp [hn]))]; exact rm_no1 n d hn _ rfl w hs1 hs2
  | true =>
    cases hd : vS d with
    | false => rw [no (.inl (by simp [hd]))]; exact rm_no2 n d hn hd w hs1 hs2
    | true =>
      rcases Int.lt_trichotomy (nS d) 0 with h0 | h0 | h0
      · exact rm_neg n d hn hd h0 w hs1 hs2
      · rw [no (.inr h0)]; exact rm_zero n d hn hd h0 w hs1 hs2
      · exact rm_pos n d hn hd h0 w hs1 hs2
set_option maxRecDepth 100000 in
set_option maxHeartbeats 1000000 in
theorem ref4Of_any (n d : Int) (w : World) (hn0 : -9223372036854775808 ≤ n) (hn1 : n ≤ 9223372036854775807) (hd0 : -9223372036854775808 ≤ d) (hd1 : d ≤ 9223372036854775807) :
    Calls Tryz.prog 42 #[.int .i64 n, .int .i64 d] w (RatPost (rMk n d) w) := by
  rw [← rMake_ofI]
  have H1 := Lib.hid (fun w => refFromInt_any n w hn0 hn1)
  have H2 := Lib.hid (fun w => refFromInt_any d w hd0 hd1)
  have H3 := Lib.hid (fun w => ref4Make_any (ofI n) (ofI d) w (size_ofI hn0 hn1) (size_ofI hd0 hd1))
  clear hn0 hn1 hd0 hd1
  generalize rMake (ofI n) (ofI d) = r at *
  generalize ofI n = n' at *
  generalize ofI d = d' at *
  have q0 : Blk (w.alloc (.cells #[.string ⟨#[]⟩, .string ⟨#[]⟩] 23)) (w.heap.size) #[.string ⟨#[]⟩, .string ⟨#[]⟩] 23 := Blk.new w _ _
  have qL : Below w.heap.size w (w.alloc (.cells #[.string ⟨#[]⟩, .string ⟨#[]⟩] 23)) := (Below.refl _ w).alloc (Nat.le_refl _) _
  have R0 := Lib.hid q0
  have L0 := Lib.hid qL
  clear qL q0
  go_enter Tryz.func42, Tryz.ntmps42
  go_wp2_with fail
  try simp only [Nat.add_assoc, Nat.reduceAdd]
  generalize (w.alloc (.cells #[.string ⟨#[]⟩, .string ⟨#[]⟩] 23)) = w0 at *
  refine (H1.out _).mono ?_
  rintro e w1 ⟨rfl, hb1⟩
  have R1 := Lib.hid (Blk.below R0.out hb1 R0.out.lt)
  have L1 := Lib.hid (L0.out.trans (hb1.mono L0.out.size))
  clear hb1
  obtain ⟨r10, r11, r1f, r1g, r1l⟩ := blk2 R1.out
  go_wp2_with fail
  refine (H2.out _).mono ?_
  rintro e w2 ⟨rfl, hb2⟩
  have R2 := Lib.hid (Blk.below R1.out hb2 R1.out.lt)
  have L2 := Lib.hid (L1.out.trans (hb2.mono L1.out.size))
  clear hb2
  obtain ⟨r20, r21, r2f, r2g, r2l⟩ := blk2 R2.out
  go_wp2_with fail
  refine (H3.out _).mono ?_
  rintro e w3 ⟨rfl, hb3⟩
  have R3 := Lib.hid (Blk.below R2.out hb3 R2.out.lt)
  have L3 := Lib.hid (L2.out.trans (hb3.mono L2.out.size))
  clear hb3
  obtain ⟨r30, r31, r3f, r3g, r3l⟩ := blk2 R3.out
  obtain ⟨⟨q1, q2⟩, q3⟩ := r
  go_wp2
  refine bodyPost_ret (v := vRE ((q1, q2), q3)) (by simp [results, Tryz.results42, go_sem, r30, r31, r3f, r3g, r3l]) rfl ⟨rfl, ?_⟩
  exact (L3.out.setCell (by simp) _).setCell (by simp) _
end Go.Proofs.YtgeoidnleagloaaGreatDoor
