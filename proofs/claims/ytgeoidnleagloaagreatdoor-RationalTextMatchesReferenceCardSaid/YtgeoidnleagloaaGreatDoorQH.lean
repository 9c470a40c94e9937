/- Walks of package rational: Print, Parse. -/
import Derived.Lib.IndexMore
import Derived.Test.YtgeoidnleagloaaGreatDoorQE
set_option linter.unusedVariables false
set_option linter.unusedSimpArgs false
namespace Go.Proofs.YtgeoidnleagloaaGreatDoor
open Go.RowKit Yk

theorem index_slash (l : List UInt8) : Lib.index l [47] = if l.contains 47 then ((l.takeWhile (· != 47)).length : Int) else -1 := by
  induction l with
  | nil => simp [Lib.index]
  | cons a t ih =>
    rw [Lib.index, ih]
    by_cases h : a = 47
    · subst h; simp
    · have h1 : (47 == a) = false := by rw [beq_eq_false_iff_ne]; exact fun e => h e.symm
      have h2 : (a != 47) = true := by simp [h]
      simp only [List.isPrefixOf, h1, Bool.false_and, Bool.false_eq_true, if_false, List.contains_cons, Bool.false_or, List.takeWhile_cons, h2, if_true, List.length_cons]
      by_cases h3 : t.contains 47 = true
      · simp only [h3, if_true]
        rw [if_neg (by rw [beq_iff_eq]; omega)]
        omega
      · simp only [h3, if_false]
        rfl
theorem cut_slash (l : List UInt8) : Lib.cut l [47] = if l.contains 47 then (l.takeWhile (· != 47), (l.dropWhile (· != 47)).tail, true) else (l, [], false) := by
  unfold Lib.cut
  rw [index_slash]
  by_cases h : l.contains 47 = true
  · simp only [h, if_true]
    rw [if_pos (by omega)]
    have e : l = l.takeWhile (· != 47) ++ l.dropWhile (· != 47) := List.takeWhile_append_dropWhile.symm
    have e1 : ((l.takeWhile (· != 47)).length : Int).toNat = (l.takeWhile (· != 47)).length := by omega
    rw [e1]
    refine Prod.ext ?_ (Prod.ext ?_ rfl)
    · show l.take _ = _
      conv => lhs; arg 2; rw [e]
      rw [List.take_left]
    · show l.drop _ = _
      conv => lhs; arg 2; rw [e]
      rw [← List.drop_drop, List.drop_left]
      cases l.dropWhile (· != 47) <;> rfl
  · simp only [h, if_false]
    rfl
theorem libCut (s : ByteArray) (w : World) (hs : s.size ≤ 1000000) (hg : Glob w) : Calls Tryz.prog 48 #[.string s, .string ⟨#[47]⟩] w fun e w' =>
    e = .returned (.tuple #[.string (rOf s).1, .string (if s.data.toList.contains 47 then (rOf s).2 else ByteArray.empty), .bool (s.data.toList.contains 47)]) ∧ Below w.heap.size w w' := by
  obtain ⟨⟨m, hm⟩, _, _⟩ := hg
  refine (Tryz.strings_Cut s ⟨#[47]⟩ m w (by omega) hm).mono ?_
  rintro e w' ⟨rfl, n, rfl⟩
  refine ⟨?_, (Below.refl _ w).drewN n⟩
  rw [show (⟨#[47]⟩ : ByteArray).data.toList = [47] from rfl, cut_slash]
  unfold rOf rSplit
  by_cases h : s.data.toList.contains 47 = true
  · simp only [h, if_true]
  · simp only [h, if_false, Bool.not_eq_true _ ▸ h]
    rfl
theorem libJoin2 (bk : Nat) (x y : ByteArray) (w : World) (h : Blk w bk #[.string x, .string y] 9) (hx : x.size ≤ 1000) (hy : y.size ≤ 1000) :
    Calls Tryz.prog 47 #[.slice (some ⟨bk, 0, none⟩) 2 2, .string ⟨#[47]⟩] w fun e w' => e = .returned (.string ⟨(x.data.toList ++ [47] ++ y.data.toList).toArray⟩) ∧ Below w.heap.size w w' := by
  have hj : Lib.join [x.data.toList, y.data.toList] [47] = x.data.toList ++ [47] ++ y.data.toList := by simp [Lib.join, List.intercalate]
  have := Tryz.strings_Join bk 0 2 [x, y] ⟨#[47]⟩ w (by
    intro j z hz
    rcases j with _ | _ | j
    · simp at hz; subst hz; exact h.cell rfl
    · simp at hz; subst hz; exact h.cell rfl
    · simp at hz) h.lt (by simp) (by simp) (by
      simp only [List.map_cons, List.map_nil]
      rw [hj]
      simp only [List.length_append, ba_len, List.length_singleton]; omega)
  simp only [List.map_cons, List.map_nil] at this
  rw [hj] at this
  exact this

set_option maxRecDepth 100000 in
set_option maxHeartbeats 1000000 in
theorem ratPrint_any (a : RS) (w : World) (hg : Glob w) (ha : Sz a) : Calls Tryz.prog 14 #[vR a] w fun e w' => e = .returned (.string (rPrint a)) ∧ Below w.heap.size w w' := by
  obtain ⟨n, d⟩ := a
  show Calls _ _ #[.agg #[.string n, .string d]] _ _
  have Hg := Lib.hid hg
  have HR : Hid (∀ w1, Below (w.heap.size + 1) (w.alloc (.cells #[.string n, .string d] 23)) w1 → Blk w1 w.heap.size #[.string n, .string d] 23 ∧ Below w.heap.size w w1) :=
    Lib.hid fun w1 h1 => ⟨(Blk.new w _ _).below h1 (by omega), ((Below.refl _ w).alloc (Nat.le_refl _) _).trans (h1.mono (by omega))⟩
  have HV : ∀ v, rV (n, d) = v → Hid (∀ w, Glob w → Calls Tryz.prog 17 #[.agg #[.string n, .string d]] w fun e w' => e = .returned (.bool v) ∧ Below w.heap.size w w') := fun v hv => Lib.hid fun w hg => by
    have := ratValid_any (n, d) w hg ha.1 ha.2; rwa [hv] at this
  cases hv : rV (n, d) with
  | false =>
    rw [rPrint_no hv]
    have V := HV _ hv
    clear HV hv hg ha
    go_enter Tryz.func14, Tryz.ntmps14
    go_wp2_with fail
    refine (V.out _ (Hg.out.below ((Below.refl _ w).alloc (Nat.le_refl _) _))).mono ?_
    rintro e w1 ⟨rfl, hb1⟩
    obtain ⟨r1, hB⟩ := HR.out w1 (by simpa using hb1)
    have HB := Lib.hid hB
    clear hb1 r1 hB
    go_wp2
    go_ret
    exact ⟨rfl, HB.out⟩
  | true =>
    have V := HV _ hv
    obtain ⟨v1, v2, _, _⟩ := rV_parts hv
    simp only at v1 v2
    have Z1 := vS_size v1
    have Z2 := vS_size v2
    have E := eq49 v2
    by_cases h1 : d = ⟨#[49]⟩
    · have hp : rPrint (n, d) = n := rPrint_one hv h1
      rw [hp]
      have t1 : (d.toList == [49]) = true := by rw [E, (nS_one_iff v2).2 h1]; rfl
      clear HV hv hg ha v1 v2 E hp h1
      go_enter Tryz.func14, Tryz.ntmps14
      go_wp2_with fail
      refine (V.out _ (Hg.out.below ((Below.refl _ w).alloc (Nat.le_refl _) _))).mono ?_
      rintro e w1 ⟨rfl, hb1⟩
      obtain ⟨r1, hB⟩ := HR.out w1 (by simpa using hb1)
      have HB := Lib.hid hB
      obtain ⟨c1, c2, _, _, _⟩ := blk2 r1
      clear hb1 r1 hB
      go_wp2
      go_ret
      exact ⟨rfl, HB.out⟩
    · have hp : rPrint (n, d) = ⟨(n.data.toList ++ [47] ++ d.data.toList).toArray⟩ := rPrint_two hv h1
      rw [hp]
      have t1 : (d.toList == [49]) = false := by rw [E]; simp only [decide_eq_false_iff_not]; exact fun e => h1 ((nS_one_iff v2).1 e)
      have HJ := Lib.hid (fun bk w h => libJoin2 bk n d w h (by omega) (by omega))
      generalize (⟨(n.data.toList ++ [47] ++ d.data.toList).toArray⟩ : ByteArray) = txt at *
      clear HV hv hg ha v1 v2 E hp h1
      go_enter Tryz.func14, Tryz.ntmps14
      go_wp2_with fail
      refine (V.out _ (Hg.out.below ((Below.refl _ w).alloc (Nat.le_refl _) _))).mono ?_
      rintro e w1 ⟨rfl, hb1⟩
      obtain ⟨r1, hB⟩ := HR.out w1 (by simpa using hb1)
      have HB := Lib.hid hB
      obtain ⟨c1, c2, _, _, _⟩ := blk2 r1
      clear hb1 r1 hB
      go_wp2_with fail
      refine (HJ.out _ _ (Blk.new w1 _ _)).mono ?_
      rintro e w2 ⟨rfl, hb2⟩
      have HB2 := Lib.hid ((HB.out.alloc HB.out.size _).trans (hb2.mono (by simp; have := HB.out.size; omega)))
      clear hb2
      go_wp2
      go_ret
      exact ⟨rfl, HB2.out⟩
/-- A text is empty. -/
theorem empty_iff (s : ByteArray) : s.toList.isEmpty = decide (s = ByteArray.empty) := by
  rw [ba_toList, Bool.eq_iff_iff, List.isEmpty_iff, decide_eq_true_eq]
  constructor
  · intro h; exact ba_ext (by rw [h]; rfl)
  · intro h; rw [h]; rfl
theorem rOf_size (s : ByteArray) : (rOf s).1.size ≤ s.size ∧ (rOf s).2.size ≤ s.size + 1 := by
  rw [← ba_len (rOf s).1, ← ba_len (rOf s).2, ← ba_len s]
  unfold rOf rSplit
  by_cases h : s.data.toList.contains 47 = true
  · simp only [h, if_true, List.toList_toArray]
    have h1 := (List.takeWhile_sublist (· != 47) (l := s.data.toList)).length_le
    have h2 := (List.dropWhile_sublist (· != 47) (l := s.data.toList)).length_le
    refine ⟨h1, ?_⟩
    rw [List.length_tail]; omega
  · simp only [h, if_false, List.toList_toArray]
    simp
theorem rOf_one {s : ByteArray} (h : s.data.toList.contains 47 = false) : (rOf s).2 = ⟨#[49]⟩ := by
  unfold rOf rSplit
  rw [if_neg (by rw [h]; simp)]
theorem rParse_err1 {s : ByteArray} (h : rPrint (rOf s) ≠ s) : rParse s = (noR, 40) := by unfold rParse; rw [if_neg (by simp [h])]
theorem rParse_err2 {s : ByteArray} (h : s = ByteArray.empty) : rParse s = (noR, 40) := by subst h; exact rParse_empty
theorem rParse_yes {s : ByteArray} (h : rPrint (rOf s) = s) (h0 : s ≠ ByteArray.empty) : rParse s = (rOf s, 0) := by
  unfold rParse
  rw [if_pos]
  cases hv : rV (rOf s) with
  | true => simp [h]
  | false => rw [rPrint_no hv] at h; exact absurd h.symm h0
theorem toList_beq (a b : ByteArray) : (a.toList == b.toList) = decide (a = b) := by
  rw [ba_toList, ba_toList, Bool.eq_iff_iff, beq_iff_eq, decide_eq_true_eq]
  exact ⟨fun h => ba_ext h, fun h => by rw [h]⟩
set_option maxRecDepth 100000 in
set_option maxHeartbeats 1000000 in
theorem ratParse_yes_true (s : ByteArray) (his : s.data.toList.contains 47 = true) (h1 : rPrint (rOf s) = s) (h0 : s ≠ ByteArray.empty) (w : World) (hg : Glob w) (hs : s.size ≤ 100000) : Calls Tryz.prog 15 #[.string s] w (RatPost (rParse s) w) := by
  have Hg := Lib.hid hg
  have HC := Lib.hid (fun w hg => libCut s w (by omega) hg)
  have hz := rOf_size s
  have HP := Lib.hid (fun w hg => ratPrint_any (rOf s) w hg ⟨by unfold maxLen; omega, by unfold maxLen; omega⟩)
  rw [rParse_yes h1 h0]
  have hpr := h1
  have h0x := h0
  clear h1 h0
  rw [his] at HC
  obtain ⟨⟨n, d⟩, hr⟩ : ∃ r, rOf s = r := ⟨_, rfl⟩
  rw [hr] at HC HP hz hpr ⊢
  skip
  generalize rPrint (n, d) = tp at *
  simp only [if_true] at HC
  have t1 : (tp.toList == s.toList) = true := by rw [toList_beq, hpr]; simp
  have t2 : s.toList.isEmpty = false := by rw [empty_iff]; simp [h0x]
  clear hg hs hz his hr hpr h0x
  go_enter Tryz.func15, Tryz.ntmps15
  go_wp2_with fail
  refine (HC.out _ (Hg.out.below (((Below.refl _ w).alloc (Nat.le_refl _) _).alloc (by simp) _))).mono ?_
  rintro e w1 ⟨rfl, hb1⟩
  have R1 := Lib.hid (Blk.below (Blk.alloc (Blk.new w #[.string ⟨#[]⟩, .string ⟨#[]⟩] 23) (.cells #[.string ⟨#[]⟩, .string ⟨#[49]⟩] 23)) hb1 (by simp <;> omega))
  have N1 := Lib.hid (Blk.below (Blk.newAt (w.alloc (.cells #[.string ⟨#[]⟩, .string ⟨#[]⟩] 23)) #[.string ⟨#[]⟩, .string ⟨#[49]⟩] 23 (b := w.heap.size + 1) (by simp)) hb1 (by simp))
  have L1 := Lib.hid ((((Below.refl _ w).alloc (Nat.le_refl _) _).alloc (by simp) _).trans (hb1.mono (by simp; omega)))
  clear hb1
  obtain ⟨n1, n2, n3, n4, n5⟩ := blk2 N1.out
  go_wp2_with fail
  have N2 : Hid (Blk ((w1.setCell ⟨w.heap.size + 1, 0, none⟩ (.string n)).setCell ⟨w.heap.size + 1, 1, none⟩ (.string d)) (w.heap.size + 1) #[.string n, .string d] 23) := Lib.hid ((Blk.set N1.out 0 (.string n)).set 1 (.string d))
  have R2 : Hid (Blk ((w1.setCell ⟨w.heap.size + 1, 0, none⟩ (.string n)).setCell ⟨w.heap.size + 1, 1, none⟩ (.string d)) w.heap.size #[.string ⟨#[]⟩, .string ⟨#[]⟩] 23) := Lib.hid ((Blk.setOther R1.out (a := ⟨w.heap.size + 1, 0, none⟩) (by simp) _).setOther (a := ⟨w.heap.size + 1, 1, none⟩) (by simp) _)
  have L2 : Hid (Below w.heap.size w ((w1.setCell ⟨w.heap.size + 1, 0, none⟩ (.string n)).setCell ⟨w.heap.size + 1, 1, none⟩ (.string d))) := Lib.hid ((L1.out.setCell (p := ⟨w.heap.size + 1, 0, none⟩) (by simp) _).setCell (p := ⟨w.heap.size + 1, 1, none⟩) (by simp) _)
  refine (HP.out _ (Hg.out.below L2.out)).mono ?_
  rintro e w3 ⟨rfl, hb3⟩
  have R3 := Lib.hid (Blk.below R2.out hb3 R2.out.lt)
  have N3 := Lib.hid (Blk.below N2.out hb3 N2.out.lt)
  have L3 := Lib.hid (L2.out.trans (hb3.mono L2.out.size))
  clear hb3
  obtain ⟨m1, m2, m3, m4, m5⟩ := blk2 N3.out
  obtain ⟨r1, r2, r3, r4, r5⟩ := blk2 R3.out
  go_wp2
  refine bodyPost_ret (v := vRE ((n, d), 0)) (by simp [results, Tryz.results15, go_sem, r1, r2, r3, r4, r5, m1, m2]) rfl ⟨rfl, ?_⟩
  exact (L3.out.setCell (by simp) _).setCell (by simp) _
set_option maxRecDepth 100000 in
set_option maxHeartbeats 1000000 in
theorem ratParse_err1_true (s : ByteArray) (his : s.data.toList.contains 47 = true) (h1 : rPrint (rOf s) ≠ s) (w : World) (hg : Glob w) (hs : s.size ≤ 100000) : Calls Tryz.prog 15 #[.string s] w (RatPost (rParse s) w) := by
  have Hg := Lib.hid hg
  have HC := Lib.hid (fun w hg => libCut s w (by omega) hg)
  have hz := rOf_size s
  have HP := Lib.hid (fun w hg => ratPrint_any (rOf s) w hg ⟨by unfold maxLen; omega, by unfold maxLen; omega⟩)
  rw [rParse_err1 h1]
  have hpr := h1
  have h0x := trivial
  clear h1
  rw [his] at HC
  obtain ⟨⟨n, d⟩, hr⟩ : ∃ r, rOf s = r := ⟨_, rfl⟩
  rw [hr] at HC HP hz hpr
  skip
  generalize rPrint (n, d) = tp at *
  simp only [if_true] at HC
  have t1 : (tp.toList == s.toList) = false := by rw [toList_beq]; simp [hpr]
  clear hg hs hz his hr hpr h0x
  go_enter Tryz.func15, Tryz.ntmps15
  go_wp2_with fail
  refine (HC.out _ (Hg.out.below (((Below.refl _ w).alloc (Nat.le_refl _) _).alloc (by simp) _))).mono ?_
  rintro e w1 ⟨rfl, hb1⟩
  have R1 := Lib.hid (Blk.below (Blk.alloc (Blk.new w #[.string ⟨#[]⟩, .string ⟨#[]⟩] 23) (.cells #[.string ⟨#[]⟩, .string ⟨#[49]⟩] 23)) hb1 (by simp <;> omega))
  have N1 := Lib.hid (Blk.below (Blk.newAt (w.alloc (.cells #[.string ⟨#[]⟩, .string ⟨#[]⟩] 23)) #[.string ⟨#[]⟩, .string ⟨#[49]⟩] 23 (b := w.heap.size + 1) (by simp)) hb1 (by simp))
  have L1 := Lib.hid ((((Below.refl _ w).alloc (Nat.le_refl _) _).alloc (by simp) _).trans (hb1.mono (by simp; omega)))
  clear hb1
  obtain ⟨n1, n2, n3, n4, n5⟩ := blk2 N1.out
  go_wp2_with fail
  have N2 : Hid (Blk ((w1.setCell ⟨w.heap.size + 1, 0, none⟩ (.string n)).setCell ⟨w.heap.size + 1, 1, none⟩ (.string d)) (w.heap.size + 1) #[.string n, .string d] 23) := Lib.hid ((Blk.set N1.out 0 (.string n)).set 1 (.string d))
  have R2 : Hid (Blk ((w1.setCell ⟨w.heap.size + 1, 0, none⟩ (.string n)).setCell ⟨w.heap.size + 1, 1, none⟩ (.string d)) w.heap.size #[.string ⟨#[]⟩, .string ⟨#[]⟩] 23) := Lib.hid ((Blk.setOther R1.out (a := ⟨w.heap.size + 1, 0, none⟩) (by simp) _).setOther (a := ⟨w.heap.size + 1, 1, none⟩) (by simp) _)
  have L2 : Hid (Below w.heap.size w ((w1.setCell ⟨w.heap.size + 1, 0, none⟩ (.string n)).setCell ⟨w.heap.size + 1, 1, none⟩ (.string d))) := Lib.hid ((L1.out.setCell (p := ⟨w.heap.size + 1, 0, none⟩) (by simp) _).setCell (p := ⟨w.heap.size + 1, 1, none⟩) (by simp) _)
  refine (HP.out _ (Hg.out.below L2.out)).mono ?_
  rintro e w3 ⟨rfl, hb3⟩
  have R3 := Lib.hid (Blk.below R2.out hb3 R2.out.lt)
  have N3 := Lib.hid (Blk.below N2.out hb3 N2.out.lt)
  have L3 := Lib.hid (L2.out.trans (hb3.mono L2.out.size))
  clear hb3
  obtain ⟨m1, m2, m3, m4, m5⟩ := blk2 N3.out
  obtain ⟨r1, r2, r3, r4, r5⟩ := blk2 R3.out
  go_wp2
  refine bodyPost_ret (v := vRE (noR, 40)) (by simp [results, Tryz.results15, go_sem, noR, r1, r2, r3, r4, r5, m1, m2]; rfl) rfl ⟨rfl, ?_⟩
  exact (L3.out.setCell (by simp) _).setCell (by simp) _
set_option maxRecDepth 100000 in
set_option maxHeartbeats 1000000 in
theorem ratParse_err2_true (s : ByteArray) (his : s.data.toList.contains 47 = true) (h1 : rPrint (rOf s) = s) (h0 : s = ByteArray.empty) (w : World) (hg : Glob w) (hs : s.size ≤ 100000) : Calls Tryz.prog 15 #[.string s] w (RatPost (rParse s) w) := by
  have Hg := Lib.hid hg
  have HC := Lib.hid (fun w hg => libCut s w (by omega) hg)
  have hz := rOf_size s
  have HP := Lib.hid (fun w hg => ratPrint_any (rOf s) w hg ⟨by unfold maxLen; omega, by unfold maxLen; omega⟩)
  rw [rParse_err2 h0]
  have hpr := h1
  have h0x := h0
  clear h1 h0
  rw [his] at HC
  obtain ⟨⟨n, d⟩, hr⟩ : ∃ r, rOf s = r := ⟨_, rfl⟩
  rw [hr] at HC HP hz hpr
  skip
  generalize rPrint (n, d) = tp at *
  simp only [if_true] at HC
  have t1 : (tp.toList == s.toList) = true := by rw [toList_beq, hpr]; simp
  have t2 : s.toList.isEmpty = true := by rw [empty_iff]; simp [h0x]
  clear hg hs hz his hr hpr h0x
  go_enter Tryz.func15, Tryz.ntmps15
  go_wp2_with fail
  refine (HC.out _ (Hg.out.below (((Below.refl _ w).alloc (Nat.le_refl _) _).alloc (by simp) _))).mono ?_
  rintro e w1 ⟨rfl, hb1⟩
  have R1 := Lib.hid (Blk.below (Blk.alloc (Blk.new w #[.string ⟨#[]⟩, .string ⟨#[]⟩] 23) (.cells #[.string ⟨#[]⟩, .string ⟨#[49]⟩] 23)) hb1 (by simp <;> omega))
  have N1 := Lib.hid (Blk.below (Blk.newAt (w.alloc (.cells #[.string ⟨#[]⟩, .string ⟨#[]⟩] 23)) #[.string ⟨#[]⟩, .string ⟨#[49]⟩] 23 (b := w.heap.size + 1) (by simp)) hb1 (by simp))
  have L1 := Lib.hid ((((Below.refl _ w).alloc (Nat.le_refl _) _).alloc (by simp) _).trans (hb1.mono (by simp; omega)))
  clear hb1
  obtain ⟨n1, n2, n3, n4, n5⟩ := blk2 N1.out
  go_wp2_with fail
  have N2 : Hid (Blk ((w1.setCell ⟨w.heap.size + 1, 0, none⟩ (.string n)).setCell ⟨w.heap.size + 1, 1, none⟩ (.string d)) (w.heap.size + 1) #[.string n, .string d] 23) := Lib.hid ((Blk.set N1.out 0 (.string n)).set 1 (.string d))
  have R2 : Hid (Blk ((w1.setCell ⟨w.heap.size + 1, 0, none⟩ (.string n)).setCell ⟨w.heap.size + 1, 1, none⟩ (.string d)) w.heap.size #[.string ⟨#[]⟩, .string ⟨#[]⟩] 23) := Lib.hid ((Blk.setOther R1.out (a := ⟨w.heap.size + 1, 0, none⟩) (by simp) _).setOther (a := ⟨w.heap.size + 1, 1, none⟩) (by simp) _)
  have L2 : Hid (Below w.heap.size w ((w1.setCell ⟨w.heap.size + 1, 0, none⟩ (.string n)).setCell ⟨w.heap.size + 1, 1, none⟩ (.string d))) := Lib.hid ((L1.out.setCell (p := ⟨w.heap.size + 1, 0, none⟩) (by simp) _).setCell (p := ⟨w.heap.size + 1, 1, none⟩) (by simp) _)
  refine (HP.out _ (Hg.out.below L2.out)).mono ?_
  rintro e w3 ⟨rfl, hb3⟩
  have R3 := Lib.hid (Blk.below R2.out hb3 R2.out.lt)
  have N3 := Lib.hid (Blk.below N2.out hb3 N2.out.lt)
  have L3 := Lib.hid (L2.out.trans (hb3.mono L2.out.size))
  clear hb3
  obtain ⟨m1, m2, m3, m4, m5⟩ := blk2 N3.out
  obtain ⟨r1, r2, r3, r4, r5⟩ := blk2 R3.out
  go_wp2
  refine bodyPost_ret (v := vRE (noR, 40)) (by simp [results, Tryz.results15, go_sem, noR, r1, r2, r3, r4, r5, m1, m2]; rfl) rfl ⟨rfl, ?_⟩
  exact (L3.out.setCell (by simp) _).setCell (by simp) _
set_option maxRecDepth 100000 in
set_option maxHeartbeats 1000000 in
theorem ratParse_yes_false (s : ByteArray) (his : s.data.toList.contains 47 = false) (h1 : rPrint (rOf s) = s) (h0 : s ≠ ByteArray.empty) (w : World) (hg : Glob w) (hs : s.size ≤ 100000) : Calls Tryz.prog 15 #[.string s] w (RatPost (rParse s) w) := by
  have Hg := Lib.hid hg
  have HC := Lib.hid (fun w hg => libCut s w (by omega) hg)
  have hz := rOf_size s
  have HP := Lib.hid (fun w hg => ratPrint_any (rOf s) w hg ⟨by unfold maxLen; omega, by unfold maxLen; omega⟩)
  have hone := rOf_one his
  rw [rParse_yes h1 h0]
  have hpr := h1
  have h0x := h0
  clear h1 h0
  rw [his] at HC
  obtain ⟨⟨n, d⟩, hr⟩ : ∃ r, rOf s = r := ⟨_, rfl⟩
  rw [hr] at HC HP hz hone hpr ⊢
  simp only at hone; subst hone
  generalize rPrint (n, ⟨#[49]⟩) = tp at *
  simp only [Bool.false_eq_true, if_false] at HC
  have t1 : (tp.toList == s.toList) = true := by rw [toList_beq, hpr]; simp
  have t2 : s.toList.isEmpty = false := by rw [empty_iff]; simp [h0x]
  clear hg hs hz his hr hpr h0x
  go_enter Tryz.func15, Tryz.ntmps15
  go_wp2_with fail
  refine (HC.out _ (Hg.out.below (((Below.refl _ w).alloc (Nat.le_refl _) _).alloc (by simp) _))).mono ?_
  rintro e w1 ⟨rfl, hb1⟩
  have R1 := Lib.hid (Blk.below (Blk.alloc (Blk.new w #[.string ⟨#[]⟩, .string ⟨#[]⟩] 23) (.cells #[.string ⟨#[]⟩, .string ⟨#[49]⟩] 23)) hb1 (by simp <;> omega))
  have N1 := Lib.hid (Blk.below (Blk.newAt (w.alloc (.cells #[.string ⟨#[]⟩, .string ⟨#[]⟩] 23)) #[.string ⟨#[]⟩, .string ⟨#[49]⟩] 23 (b := w.heap.size + 1) (by simp)) hb1 (by simp))
  have L1 := Lib.hid ((((Below.refl _ w).alloc (Nat.le_refl _) _).alloc (by simp) _).trans (hb1.mono (by simp; omega)))
  clear hb1
  obtain ⟨n1, n2, n3, n4, n5⟩ := blk2 N1.out
  go_wp2_with fail
  have N2 : Hid (Blk (w1.setCell ⟨w.heap.size + 1, 0, none⟩ (.string n)) (w.heap.size + 1) #[.string n, .string ⟨#[49]⟩] 23) := Lib.hid (Blk.set N1.out 0 (.string n))
  have R2 : Hid (Blk (w1.setCell ⟨w.heap.size + 1, 0, none⟩ (.string n)) w.heap.size #[.string ⟨#[]⟩, .string ⟨#[]⟩] 23) := Lib.hid (Blk.setOther R1.out (a := ⟨w.heap.size + 1, 0, none⟩) (by simp) _)
  have L2 : Hid (Below w.heap.size w (w1.setCell ⟨w.heap.size + 1, 0, none⟩ (.string n))) := Lib.hid (L1.out.setCell (p := ⟨w.heap.size + 1, 0, none⟩) (by simp) _)
  refine (HP.out _ (Hg.out.below L2.out)).mono ?_
  rintro e w3 ⟨rfl, hb3⟩
  have R3 := Lib.hid (Blk.below R2.out hb3 R2.out.lt)
  have N3 := Lib.hid (Blk.below N2.out hb3 N2.out.lt)
  have L3 := Lib.hid (L2.out.trans (hb3.mono L2.out.size))
  clear hb3
  obtain ⟨m1, m2, m3, m4, m5⟩ := blk2 N3.out
  obtain ⟨r1, r2, r3, r4, r5⟩ := blk2 R3.out
  go_wp2
  refine bodyPost_ret (v := vRE ((n, ⟨#[49]⟩), 0)) (by simp [results, Tryz.results15, go_sem, r1, r2, r3, r4, r5, m1, m2]) rfl ⟨rfl, ?_⟩
  exact (L3.out.setCell (by simp) _).setCell (by simp) _
set_option maxRecDepth 100000 in
set_option maxHeartbeats 1000000 in
theorem ratParse_err1_false (s : ByteArray) (his : s.data.toList.contains 47 = false) (h1 : rPrint (rOf s) ≠ s) (w : World) (hg : Glob w) (hs : s.size ≤ 100000) : Calls Tryz.prog 15 #[.string s] w (RatPost (rParse s) w) := by
  have Hg := Lib.hid hg
  have HC := Lib.hid (fun w hg => libCut s w (by omega) hg)
  have hz := rOf_size s
  have HP := Lib.hid (fun w hg => ratPrint_any (rOf s) w hg ⟨by unfold maxLen; omega, by unfold maxLen; omega⟩)
  have hone := rOf_one his
  rw [rParse_err1 h1]
  have hpr := h1
  have h0x := trivial
  clear h1
  rw [his] at HC
  obtain ⟨⟨n, d⟩, hr⟩ : ∃ r, rOf s = r := ⟨_, rfl⟩
  rw [hr] at HC HP hz hone hpr
  simp only at hone; subst hone
  generalize rPrint (n, ⟨#[49]⟩) = tp at *
  simp only [Bool.false_eq_true, if_false] at HC
  have t1 : (tp.toList == s.toList) = false := by rw [toList_beq]; simp [hpr]
  clear hg hs hz his hr hpr h0x
  go_enter Tryz.func15, Tryz.ntmps15
  go_wp2_with fail
  refine (HC.out _ (Hg.out.below (((Below.refl _ w).alloc (Nat.le_refl _) _).alloc (by simp) _))).mono ?_
  rintro e w1 ⟨rfl, hb1⟩
  have R1 := Lib.hid (Blk.below (Blk.alloc (Blk.new w #[.string ⟨#[]⟩, .string ⟨#[]⟩] 23) (.cells #[.string ⟨#[]⟩, .string ⟨#[49]⟩] 23)) hb1 (by simp <;> omega))
  have N1 := Lib.hid (Blk.below (Blk.newAt (w.alloc (.cells #[.string ⟨#[]⟩, .string ⟨#[]⟩] 23)) #[.string ⟨#[]⟩, .string ⟨#[49]⟩] 23 (b := w.heap.size + 1) (by simp)) hb1 (by simp))
  have L1 := Lib.hid ((((Below.refl _ w).alloc (Nat.le_refl _) _).alloc (by simp) _).trans (hb1.mono (by simp; omega)))
  clear hb1
  obtain ⟨n1, n2, n3, n4, n5⟩ := blk2 N1.out
  go_wp2_with fail
  have N2 : Hid (Blk (w1.setCell ⟨w.heap.size + 1, 0, none⟩ (.string n)) (w.heap.size + 1) #[.string n, .string ⟨#[49]⟩] 23) := Lib.hid (Blk.set N1.out 0 (.string n))
  have R2 : Hid (Blk (w1.setCell ⟨w.heap.size + 1, 0, none⟩ (.string n)) w.heap.size #[.string ⟨#[]⟩, .string ⟨#[]⟩] 23) := Lib.hid (Blk.setOther R1.out (a := ⟨w.heap.size + 1, 0, none⟩) (by simp) _)
  have L2 : Hid (Below w.heap.size w (w1.setCell ⟨w.heap.size + 1, 0, none⟩ (.string n))) := Lib.hid (L1.out.setCell (p := ⟨w.heap.size + 1, 0, none⟩) (by simp) _)
  refine (HP.out _ (Hg.out.below L2.out)).mono ?_
  rintro e w3 ⟨rfl, hb3⟩
  have R3 := Lib.hid (Blk.below R2.out hb3 R2.out.lt)
  have N3 := Lib.hid (Blk.below N2.out hb3 N2.out.lt)
  have L3 := Lib.hid (L2.out.trans (hb3.mono L2.out.size))
  clear hb3
  obtain ⟨m1, m2, m3, m4, m5⟩ := blk2 N3.out
  obtain ⟨r1, r2, r3, r4, r5⟩ := blk2 R3.out
  go_wp2
  refine bodyPost_ret (v := vRE (noR, 40)) (by simp [results, Tryz.results15, go_sem, noR, r1, r2, r3, r4, r5, m1, m2]; rfl) rfl ⟨rfl, ?_⟩
  exact (L3.out.setCell (by simp) _).setCell (by simp) _
set_option maxRecDepth 100000 in
set_option maxHeartbeats 1000000 in
theorem ratParse_err2_false (s : ByteArray) (his : s.data.toList.contains 47 = false) (h1 : rPrint (rOf s) = s) (h0 : s = ByteArray.empty) (w : World) (hg : Glob w) (hs : s.size ≤ 100000) : Calls Tryz.prog 15 #[.string s] w (RatPost (rParse s) w) := by
  have Hg := Lib.hid hg
  have HC := Lib.hid (fun w hg => libCut s w (by omega) hg)
  have hz := rOf_size s
  have HP := Lib.hid (fun w hg => ratPrint_any (rOf s) w hg ⟨by unfold maxLen; omega, by unfold maxLen; omega⟩)
  have hone := rOf_one his
  rw [rParse_err2 h0]
  have hpr := h1
  have h0x := h0
  clear h1 h0
  rw [his] at HC
  obtain ⟨⟨n, d⟩, hr⟩ : ∃ r, rOf s = r := ⟨_, rfl⟩
  rw [hr] at HC HP hz hone hpr
  simp only at hone; subst hone
  generalize rPrint (n, ⟨#[49]⟩) = tp at *
  simp only [Bool.false_eq_true, if_false] at HC
  have t1 : (tp.toList == s.toList) = true := by rw [toList_beq, hpr]; simp
  have t2 : s.toList.isEmpty = true := by rw [empty_iff]; simp [h0x]
  clear hg hs hz his hr hpr h0x
  go_enter Tryz.func15, Tryz.ntmps15
  go_wp2_with fail
  refine (HC.out _ (Hg.out.below (((Below.refl _ w).alloc (Nat.le_refl _) _).alloc (by simp) _))).mono ?_
  rintro e w1 ⟨rfl, hb1⟩
  have R1 := Lib.hid (Blk.below (Blk.alloc (Blk.new w #[.string ⟨#[]⟩, .string ⟨#[]⟩] 23) (.cells #[.string ⟨#[]⟩, .string ⟨#[49]⟩] 23)) hb1 (by simp <;> omega))
  have N1 := Lib.hid (Blk.below (Blk.newAt (w.alloc (.cells #[.string ⟨#[]⟩, .string ⟨#[]⟩] 23)) #[.string ⟨#[]⟩, .string ⟨#[49]⟩] 23 (b := w.heap.size + 1) (by simp)) hb1 (by simp))
  have L1 := Lib.hid ((((Below.refl _ w).alloc (Nat.le_refl _) _).alloc (by simp) _).trans (hb1.mono (by simp; omega)))
  clear hb1
  obtain ⟨n1, n2, n3, n4, n5⟩ := blk2 N1.out
  go_wp2_with fail
  have N2 : Hid (Blk (w1.setCell ⟨w.heap.size + 1, 0, none⟩ (.string n)) (w.heap.size + 1) #[.string n, .string ⟨#[49]⟩] 23) := Lib.hid (Blk.set N1.out 0 (.string n))
  have R2 : Hid (Blk (w1.setCell ⟨w.heap.size + 1, 0, none⟩ (.string n)) w.heap.size #[.string ⟨#[]⟩, .string ⟨#[]⟩] 23) := Lib.hid (Blk.setOther R1.out (a := ⟨w.heap.size + 1, 0, none⟩) (by simp) _)
  have L2 : Hid (Below w.heap.size w (w1.setCell ⟨w.heap.size + 1, 0, none⟩ (.string n))) := Lib.hid (L1.out.setCell (p := ⟨w.heap.size + 1, 0, none⟩) (by simp) _)
  refine (HP.out _ (Hg.out.below L2.out)).mono ?_
  rintro e w3 ⟨rfl, hb3⟩
  have R3 := Lib.hid (Blk.below R2.out hb3 R2.out.lt)
  have N3 := Lib.hid (Blk.below N2.out hb3 N2.out.lt)
  have L3 := Lib.hid (L2.out.trans (hb3.mono L2.out.size))
  clear hb3
  obtain ⟨m1, m2, m3, m4, m5⟩ := blk2 N3.out
  obtain ⟨r1, r2, r3, r4, r5⟩ := blk2 R3.out
  go_wp2
  refine bodyPost_ret (v := vRE (noR, 40)) (by simp [results, Tryz.results15, go_sem, noR, r1, r2, r3, r4, r5, m1, m2]; rfl) rfl ⟨rfl, ?_⟩
  exact (L3.out.setCell (by simp) _).setCell (by simp) _
theorem ratParse_any (s : ByteArray) (w : World) (hg : Glob w) (hs : s.size ≤ 100000) : Calls Tryz.prog 15 #[.string s] w (RatPost (rParse s) w) := by
  by_cases h1 : rPrint (rOf s) = s
  · by_cases h0 : s = ByteArray.empty
    · cases his : s.data.toList.contains 47 with
      | true => exact ratParse_err2_true s his h1 h0 w hg hs
      | false => exact ratParse_err2_false s his h1 h0 w hg hs
    · cases his : s.data.toList.contains 47 with
      | true => exact ratParse_yes_true s his h1 h0 w hg hs
      | false => exact ratParse_yes_false s his h1 h0 w hg hs
  · cases his : s.data.toList.contains 47 with
    | true => exact ratParse_err1_true s his h1 w hg hs
    | false => exact ratParse_err1_false s his h1 w hg hs
end Go.Proofs.YtgeoidnleagloaaGreatDoor
