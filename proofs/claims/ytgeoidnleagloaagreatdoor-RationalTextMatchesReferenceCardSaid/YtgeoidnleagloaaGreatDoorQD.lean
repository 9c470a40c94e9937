/- Walks of package rational: Make, Of; what the four operations compute, as plain functions. -/
import Derived.Test.YtgeoidnleagloaaGreatDoorQC
set_option linter.unusedVariables false
set_option linter.unusedSimpArgs false
namespace Go.Proofs.YtgeoidnleagloaaGreatDoor
open Go.RowKit Yk

theorem doF_true (r : SE) : doF true r = (ByteArray.empty, true) := rfl
theorem doF_chk (s : Int) : doF false (chkI s) = if small s then (ofI s, false) else (ByteArray.empty, true) := by
  unfold doF chkI small
  by_cases h : s.natAbs < BIG
  · rw [if_neg (by simp), if_pos h, if_pos (by simpa using h)]; rfl
  · rw [if_neg (by simp), if_neg h, if_neg (by simpa using h)]; rfl
theorem iMul_chk {a b : ByteArray} (ha : vS a = true) (hb : vS b = true) : iMul a b = chkI (nS a * nS b) := by unfold iMul; rw [if_pos (by simp [ha, hb])]
theorem iAdd_chk {a b : ByteArray} (ha : vS a = true) (hb : vS b = true) : iAdd a b = chkI (nS a + nS b) := by unfold iAdd; rw [if_pos (by simp [ha, hb])]
theorem iSub_chk {a b : ByteArray} (ha : vS a = true) (hb : vS b = true) : iSub a b = chkI (nS a - nS b) := by unfold iSub; rw [if_pos (by simp [ha, hb])]
theorem vS_small {s : Int} (h : small s = true) : vS (ofI s) = true := vS_ofI (small_iff.1 h)
theorem redF_true (n d : ByteArray) : redF true n d = (noR, 40) := rfl
theorem redF_ofI (n d : Int) : redF false (ofI n) (ofI d) = rMk n d := by unfold redF; rw [if_neg (by simp), rMake_ofI]
/-- A step whose operation checks a number. -/
theorem doF_ok {bad : Bool} {r : SE} {x : ByteArray} (h : doF bad r = (x, false)) : bad = false ∧ r.1 = x ∧ r.2 = 0 := by
  unfold doF at h
  cases bad with
  | true => simp at h
  | false => simp at h; exact ⟨rfl, h.1, h.2⟩
/-- An operation whose results are integers. -/
def OkF (f : ByteArray → ByteArray → SE) : Prop := ∀ x y, (f x y).2 = 0 → vS (f x y).1 = true
theorem chkI_vS {s : Int} (h : (chkI s).2 = 0) : vS (chkI s).1 = true := by
  unfold chkI at h ⊢
  split at h
  · rename_i h2; rw [if_pos h2]; exact vS_ofI h2
  · simp at h
theorem okMul : OkF iMul := by
  intro x y h
  unfold iMul at h ⊢
  split at h
  · rename_i h2; rw [if_pos h2]; exact chkI_vS h
  · simp at h
theorem okAdd : OkF iAdd := by
  intro x y h
  unfold iAdd at h ⊢
  split at h
  · rename_i h2; rw [if_pos h2]; exact chkI_vS h
  · simp at h
theorem okSub : OkF iSub := by
  intro x y h
  unfold iSub at h ⊢
  split at h
  · rename_i h2; rw [if_pos h2]; exact chkI_vS h
  · simp at h
theorem doF_vS {f : ByteArray → ByteArray → SE} (hf : OkF f) {bad : Bool} {x y : ByteArray} (h : (doF bad (f x y)).2 = false) : bad = false ∧ vS (doF bad (f x y)).1 = true := by
  obtain ⟨h1, h2, h3⟩ := doF_ok (show doF bad (f x y) = ((doF bad (f x y)).1, false) from Prod.ext rfl h)
  exact ⟨h1, by rw [← h2]; exact hf x y h3⟩
/-- What 'sum' computes. -/
def sum2 (a b : RS) : ByteArray × Bool := doF ([a, b].any fun r => !rV r) (iMul a.1 b.2)
def sum3 (a b : RS) : ByteArray × Bool := doF (sum2 a b).2 (iMul b.1 a.2)
def sum4 (f : ByteArray → ByteArray → SE) (a b : RS) : ByteArray × Bool := doF (sum3 a b).2 (f (sum2 a b).1 (sum3 a b).1)
def sum5 (f : ByteArray → ByteArray → SE) (a b : RS) : ByteArray × Bool := doF (sum4 f a b).2 (iMul a.2 b.2)
def sumF (f : ByteArray → ByteArray → SE) (a b : RS) : RS × Int := redF (sum5 f a b).2 (sum4 f a b).1 (sum5 f a b).1
theorem sum_gen {f : ByteArray → ByteArray → SE} {F : Int → Int → Int} (hf : ∀ {x y : ByteArray}, vS x = true → vS y = true → f x y = chkI (F (nS x) (nS y))) (a b : RS) :
    sumF f a b = if rV a && rV b && small (nS a.1 * nS b.2) && small (nS b.1 * nS a.2) then rMk (F (nS a.1 * nS b.2) (nS b.1 * nS a.2)) (nS a.2 * nS b.2) else (noR, 40) := by
  cases ha : rV a
  · simp [sumF, sum5, sum4, sum3, sum2, ha, doF_true, redF_true]
  · cases hb : rV b
    · simp [sumF, sum5, sum4, sum3, sum2, ha, hb, doF_true, redF_true]
    · obtain ⟨a1, a2, _, _⟩ := rV_parts ha
      obtain ⟨b1, b2, _, _⟩ := rV_parts hb
      have e2 : sum2 a b = if small (nS a.1 * nS b.2) then (ofI (nS a.1 * nS b.2), false) else (ByteArray.empty, true) := by
        unfold sum2
        simp only [List.any_cons, List.any_nil, ha, hb, Bool.not_true, Bool.or_false]
        rw [iMul_chk a1 b2, doF_chk]
      cases h1 : small (nS a.1 * nS b.2)
      · rw [h1] at e2
        simp [sumF, sum5, sum4, sum3, e2, doF_true, redF_true]
      · rw [h1] at e2
        have e3 : sum3 a b = if small (nS b.1 * nS a.2) then (ofI (nS b.1 * nS a.2), false) else (ByteArray.empty, true) := by
          unfold sum3
          rw [e2]
          simp only [if_true]
          rw [iMul_chk b1 a2, doF_chk]
        cases h2 : small (nS b.1 * nS a.2)
        · rw [h2] at e3
          simp [sumF, sum5, sum4, e3, doF_true, redF_true]
        · rw [h2] at e3
          have e4 : sum4 f a b = if small (F (nS a.1 * nS b.2) (nS b.1 * nS a.2)) then (ofI (F (nS a.1 * nS b.2) (nS b.1 * nS a.2)), false) else (ByteArray.empty, true) := by
            unfold sum4
            rw [e2, e3]
            simp only [if_true]
            rw [hf (vS_small h1) (vS_small h2), doF_chk, nS_ofI, nS_ofI]
          cases h3 : small (F (nS a.1 * nS b.2) (nS b.1 * nS a.2))
          · rw [h3] at e4
            simp [sumF, sum5, e4, doF_true, redF_true]
            rw [rMk_no (by simp [h3])]
          · rw [h3] at e4
            have e5 : sum5 f a b = if small (nS a.2 * nS b.2) then (ofI (nS a.2 * nS b.2), false) else (ByteArray.empty, true) := by
              unfold sum5
              rw [e4]
              simp only [if_true]
              rw [iMul_chk a2 b2, doF_chk]
            unfold sumF
            rw [e4, e5]
            cases h4 : small (nS a.2 * nS b.2)
            · simp [redF_true]
              rw [rMk_no (by simp [h4])]
            · simp [redF_ofI]
theorem sum_add (a b : RS) : sumF iAdd a b = rAdd a b := sum_gen (F := fun x y => x + y) (fun hx hy => iAdd_chk hx hy) a b
theorem sum_sub (a b : RS) : sumF iSub a b = rSub a b := sum_gen (F := fun x y => x - y) (fun hx hy => iSub_chk hx hy) a b
/-- What 'Mul' and 'Div' compute: products of some of the four integers. -/
def prod2 (a b : RS) (x y : ByteArray) : ByteArray × Bool := doF ([a, b].any fun r => !rV r) (iMul x y)
def prod3 (a b : RS) (x y z t : ByteArray) : ByteArray × Bool := doF (prod2 a b x y).2 (iMul z t)
def prodF (a b : RS) (x y z t : ByteArray) : RS × Int := redF (prod3 a b x y z t).2 (prod2 a b x y).1 (prod3 a b x y z t).1
theorem prod_gen (a b : RS) (x y z t : ByteArray) (hv : rV a = true → rV b = true → vS x = true ∧ vS y = true ∧ vS z = true ∧ vS t = true) :
    prodF a b x y z t = if rV a && rV b then rMk (nS x * nS y) (nS z * nS t) else (noR, 40) := by
  cases ha : rV a
  · simp [prodF, prod3, prod2, ha, doF_true, redF_true]
  · cases hb : rV b
    · simp [prodF, prod3, prod2, ha, hb, doF_true, redF_true]
    · obtain ⟨v1, v2, v3, v4⟩ := hv ha hb
      have e2 : prod2 a b x y = if small (nS x * nS y) then (ofI (nS x * nS y), false) else (ByteArray.empty, true) := by
        unfold prod2
        simp only [List.any_cons, List.any_nil, ha, hb, Bool.not_true, Bool.or_false]
        rw [iMul_chk v1 v2, doF_chk]
      cases h1 : small (nS x * nS y)
      · rw [h1] at e2
        simp [prodF, prod3, e2, doF_true, redF_true]
        rw [rMk_no (by simp [h1])]
      · rw [h1] at e2
        have e3 : prod3 a b x y z t = if small (nS z * nS t) then (ofI (nS z * nS t), false) else (ByteArray.empty, true) := by
          unfold prod3
          rw [e2]
          simp only [if_true]
          rw [iMul_chk v3 v4, doF_chk]
        unfold prodF
        rw [e2, e3]
        cases h2 : small (nS z * nS t)
        · simp [redF_true]
          rw [rMk_no (by simp [h2])]
        · simp [redF_ofI]
theorem prod_mul (a b : RS) : prodF a b a.1 b.1 a.2 b.2 = rMul a b := prod_gen a b _ _ _ _ fun ha hb => ⟨(rV_parts ha).1, (rV_parts hb).1, (rV_parts ha).2.1, (rV_parts hb).2.1⟩
theorem prod_div (a b : RS) : prodF a b a.1 b.2 a.2 b.1 = rDiv a b := prod_gen a b _ _ _ _ fun ha hb => ⟨(rV_parts ha).1, (rV_parts hb).2.1, (rV_parts ha).2.1, (rV_parts hb).1⟩

/-- A fraction and an error come back. -/
def RatPost (r : RS × Int) (w : World) (e : Ending) (w' : World) : Prop := e = .returned (vRE r) ∧ Below w.heap.size w w'
set_option maxRecDepth 100000 in
set_option maxHeartbeats 1000000 in
theorem ratMake_no1 (n d : ByteArray) (hn : vS n = false) (w : World) (hg : Glob w) (hs1 : n.size ≤ maxLen) (hs2 : d.size ≤ maxLen) : Calls Tryz.prog 22 #[.string n, .string d] w (RatPost (redF true n d) w) := by
    have Hg := Lib.hid hg
    have H := Lib.hid (fun w => intValid_is hn w hs1)
    clear hn hs1 hs2 hg
    go_enter Tryz.func22, Tryz.ntmps22
    go_wp2_with fail
    refine (H.out _).mono ?_
    rintro e wx ⟨rfl, hbx⟩
    have R1 := Lib.hid (Blk.below (Blk.new w #[.string ⟨#[]⟩, .string ⟨#[]⟩] 23) hbx (by simp))
    have HB := Lib.hid (((Below.refl _ w).alloc (Nat.le_refl _) _).trans (hbx.mono (by simp)))
    clear hbx
    go_wp2_with fail
    refine (reduced_any n d wx.heap.size true _ (Blk.new wx _ _) (fun h => by cases h) (Hg.out.above HB.out.size)).mono ?_
    rintro e w2 ⟨rfl, g2⟩
    have R2 := Lib.hid (Blk.other (Blk.alloc R1.out _) g2 (by have := R1.out.lt; omega))
    have HB2 := Lib.hid ((HB.out.alloc HB.out.size _).trans (below_of_grown g2 HB.out.size (by simp; have := HB.out.size; omega)))
    clear g2
    obtain ⟨r1, r2, r3, r4, r5⟩ := blk2 R2.out
    generalize redF true n d = r at *
    obtain ⟨⟨q1, q2⟩, q3⟩ := r
    go_wp2
    refine bodyPost_ret (v := vRE ((q1, q2), q3)) (by simp [results, Tryz.results22, go_sem, r1, r2, r3, r4, r5]) rfl ⟨rfl, ?_⟩
    exact (HB2.out.setCell (by simp) _).setCell (by simp) _
set_option maxRecDepth 100000 in
set_option maxHeartbeats 1000000 in
theorem ratMake_no2 (n d : ByteArray) (hn : vS n = true) (hd : vS d = false) (w : World) (hg : Glob w) (hs1 : n.size ≤ maxLen) (hs2 : d.size ≤ maxLen) : Calls Tryz.prog 22 #[.string n, .string d] w (RatPost (redF true n d) w) := by
    have Hg := Lib.hid hg
    have H := Lib.hid (fun w => intValid_is hn w hs1)
    have H2 := Lib.hid (fun w => intValid_is hd w hs2)
    have Hn := Lib.hid hn
    have Hd := Lib.hid hd
    clear hn hd hs1 hs2 hg
    go_enter Tryz.func22, Tryz.ntmps22
    go_wp2_with fail
    refine (H.out _).mono ?_
    rintro e w1 ⟨rfl, hb1⟩
    have HB1 := Lib.hid hb1
    clear hb1
    go_wp2_with fail
    refine (H2.out _).mono ?_
    rintro e wx ⟨rfl, hb2⟩
    have hbx := HB1.out.trans (hb2.mono (by simpa using HB1.out.size))
    clear hb2
    have R1 := Lib.hid (Blk.below (Blk.new w #[.string ⟨#[]⟩, .string ⟨#[]⟩] 23) hbx (by simp))
    have HB := Lib.hid (((Below.refl _ w).alloc (Nat.le_refl _) _).trans (hbx.mono (by simp)))
    clear hbx
    go_wp2_with fail
    refine (reduced_any n d wx.heap.size true _ (Blk.new wx _ _) (fun h => by cases h) (Hg.out.above HB.out.size)).mono ?_
    rintro e w2 ⟨rfl, g2⟩
    have R2 := Lib.hid (Blk.other (Blk.alloc R1.out _) g2 (by have := R1.out.lt; omega))
    have HB2 := Lib.hid ((HB.out.alloc HB.out.size _).trans (below_of_grown g2 HB.out.size (by simp; have := HB.out.size; omega)))
    clear g2
    obtain ⟨r1, r2, r3, r4, r5⟩ := blk2 R2.out
    generalize redF true n d = r at *
    obtain ⟨⟨q1, q2⟩, q3⟩ := r
    go_wp2
    refine bodyPost_ret (v := vRE ((q1, q2), q3)) (by simp [results, Tryz.results22, go_sem, r1, r2, r3, r4, r5]) rfl ⟨rfl, ?_⟩
    exact (HB2.out.setCell (by simp) _).setCell (by simp) _
set_option maxRecDepth 100000 in
set_option maxHeartbeats 1000000 in
theorem ratMake_yes (n d : ByteArray) (hn : vS n = true) (hd : vS d = true) (w : World) (hg : Glob w) (hs1 : n.size ≤ maxLen) (hs2 : d.size ≤ maxLen) : Calls Tryz.prog 22 #[.string n, .string d] w (RatPost (redF false n d) w) := by
    have Hg := Lib.hid hg
    have H := Lib.hid (fun w => intValid_is hn w hs1)
    have H2 := Lib.hid (fun w => intValid_is hd w hs2)
    have Hn := Lib.hid hn
    have Hd := Lib.hid hd
    clear hn hd hs1 hs2 hg
    go_enter Tryz.func22, Tryz.ntmps22
    go_wp2_with fail
    refine (H.out _).mono ?_
    rintro e w1 ⟨rfl, hb1⟩
    have HB1 := Lib.hid hb1
    clear hb1
    go_wp2_with fail
    refine (H2.out _).mono ?_
    rintro e wx ⟨rfl, hb2⟩
    have hbx := HB1.out.trans (hb2.mono (by simpa using HB1.out.size))
    clear hb2
    have R1 := Lib.hid (Blk.below (Blk.new w #[.string ⟨#[]⟩, .string ⟨#[]⟩] 23) hbx (by simp))
    have HB := Lib.hid (((Below.refl _ w).alloc (Nat.le_refl _) _).trans (hbx.mono (by simp)))
    clear hbx
    go_wp2_with fail
    refine (reduced_any n d wx.heap.size false _ (Blk.new wx _ _) (fun _ => ⟨Hn.out, Hd.out, Hg.out.below (HB.out.trans ((Below.refl _ wx).alloc HB.out.size _))⟩) (Hg.out.above HB.out.size)).mono ?_
    rintro e w2 ⟨rfl, g2⟩
    have R2 := Lib.hid (Blk.other (Blk.alloc R1.out _) g2 (by have := R1.out.lt; omega))
    have HB2 := Lib.hid ((HB.out.alloc HB.out.size _).trans (below_of_grown g2 HB.out.size (by simp; have := HB.out.size; omega)))
    clear g2
    obtain ⟨r1, r2, r3, r4, r5⟩ := blk2 R2.out
    generalize redF false n d = r at *
    obtain ⟨⟨q1, q2⟩, q3⟩ := r
    go_wp2
    refine bodyPost_ret (v := vRE ((q1, q2), q3)) (by simp [results, Tryz.results22, go_sem, r1, r2, r3, r4, r5]) rfl ⟨rfl, ?_⟩
    exact (HB2.out.setCell (by simp) _).setCell (by simp) _
theorem ratMake_any (n d : ByteArray) (w : World) (hg : Glob w) (hs1 : n.size ≤ maxLen) (hs2 : d.size ≤ maxLen) : Calls Tryz.prog 22 #[.string n, .string d] w (RatPost (rMake n d) w) := by
  have hr : redF (!(vS n && vS d)) n d = rMake n d := by
    unfold redF rMake
    cases vS n <;> cases vS d <;> simp
  rw [← hr]
  cases hn : vS n with
  | false => exact ratMake_no1 n d hn w hg hs1 hs2
  | true =>
    cases hd : vS d with
    | false => exact ratMake_no2 n d hn hd w hg hs1 hs2
    | true => exact ratMake_yes n d hn hd w hg hs1 hs2
theorem size_ofI {n : Int} (h0 : -9223372036854775808 ≤ n) (h1 : n ≤ 9223372036854775807) : (ofI n).size ≤ maxLen := size_vS (vS_ofI (Nat.lt_of_lt_of_le (show n.natAbs < 10 ^ 19 by omega) (Nat.pow_le_pow_right (by decide) (by decide))))
set_option maxRecDepth 100000 in
theorem ratOf_any (n d : Int) (w : World) (hg : Glob w) (hn0 : -9223372036854775808 ≤ n) (hn1 : n ≤ 9223372036854775807) (hd0 : -9223372036854775808 ≤ d) (hd1 : d ≤ 9223372036854775807) : Calls Tryz.prog 41 #[.int .i64 n, .int .i64 d] w (RatPost (rMk n d) w) := by
    rw [← rMake_ofI]
    have Hg := Lib.hid hg
    have H1 := Lib.hid (fun w hg => fromInt_any n hn0 hn1 w hg)
    have H2 := Lib.hid (fun w hg => fromInt_any d hd0 hd1 w hg)
    have H3 := Lib.hid (fun w hg => ratMake_any (ofI n) (ofI d) w hg (size_ofI hn0 hn1) (size_ofI hd0 hd1))
    clear hg hn0 hn1 hd0 hd1
    generalize rMake (ofI n) (ofI d) = r at *
    generalize ofI n = n' at *
    generalize ofI d = d' at *
    go_enter Tryz.func41, Tryz.ntmps41
    go_wp2_with fail
    refine (H1.out _ (Hg.out.below ((Below.refl _ w).alloc (Nat.le_refl _) _))).mono ?_
    rintro e w1 ⟨rfl, hb1⟩
    have R1 := Lib.hid (Blk.below (Blk.new w #[.string ⟨#[]⟩, .string ⟨#[]⟩] 23) hb1 (by simp))
    have HB1 := Lib.hid (((Below.refl _ w).alloc (Nat.le_refl _) _).trans (hb1.mono (by simp)))
    clear hb1
    go_wp2_with fail
    refine (H2.out _ (Hg.out.below HB1.out)).mono ?_
    rintro e w2 ⟨rfl, hb2⟩
    have R2 := Lib.hid (Blk.below R1.out hb2 R1.out.lt)
    have HB2 := Lib.hid (HB1.out.trans (hb2.mono HB1.out.size))
    clear hb2
    go_wp2_with fail
    refine (H3.out _ (Hg.out.below HB2.out)).mono ?_
    rintro e w3 ⟨rfl, hb3⟩
    have R3 := Lib.hid (Blk.below R2.out hb3 R2.out.lt)
    have HB3 := Lib.hid (HB2.out.trans (hb3.mono HB2.out.size))
    clear hb3
    obtain ⟨r1, r2, r3, r4, r5⟩ := blk2 R3.out
    obtain ⟨⟨q1, q2⟩, q3⟩ := r
    go_wp2
    refine bodyPost_ret (v := vRE ((q1, q2), q3)) (by simp [results, Tryz.results41, go_sem, r1, r2, r3, r4, r5]) rfl ⟨rfl, ?_⟩
    exact (HB3.out.setCell (by simp) _).setCell (by simp) _
end Go.Proofs.YtgeoidnleagloaaGreatDoor
