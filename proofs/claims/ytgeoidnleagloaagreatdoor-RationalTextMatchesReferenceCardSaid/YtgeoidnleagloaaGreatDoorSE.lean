/- Walks of the reference's fractions: Print and Parse. -/
import Derived.Test.YtgeoidnleagloaaGreatDoorSB
import Derived.Test.YtgeoidnleagloaaGreatDoorQH
set_option linter.unusedVariables false
set_option linter.unusedSimpArgs false
namespace Go.Proofs.YtgeoidnleagloaaGreatDoor
open Go.RowKit Yk

set_option maxRecDepth 100000 in
set_option maxHeartbeats 1000000 in
theorem r4print_no (n d : ByteArray) (hv : rV (n, d) = false) (w : World) (ha : Sz (n, d)) :
    Calls Tryz.prog 16 #[.agg #[.string n, .string d]] w fun e w' => e = .returned (.string ⟨#[]⟩) ∧ Below w.heap.size w w' := by
  have VA := Lib.hid (fun w => ref4Valid_is hv w ha)
  clear hv ha
  have q0 : Blk (w.alloc (.cells #[.string n, .string d] 23)) (w.heap.size) #[.string n, .string d] 23 := Blk.new w _ _
  have qL : Below w.heap.size w (w.alloc (.cells #[.string n, .string d] 23)) := (Below.refl _ w).alloc (Nat.le_refl _) _
  have A0 := Lib.hid q0
  have L0 := Lib.hid qL
  clear qL q0
  go_enter Tryz.func16, Tryz.ntmps16
  go_wp2_with fail
  try simp only [Nat.add_assoc, Nat.reduceAdd]
  generalize (w.alloc (.cells #[.string n, .string d] 23)) = w0 at *
  obtain ⟨a00, a01, a0f, a0g, a0l⟩ := blk2 A0.out
  refine (VA.out _).mono ?_
  rintro e w1 ⟨rfl, hb1⟩
  have A1 := Lib.hid (Blk.below A0.out hb1 A0.out.lt)
  have L1 := Lib.hid (L0.out.trans (hb1.mono L0.out.size))
  clear hb1
  obtain ⟨a10, a11, a1f, a1g, a1l⟩ := blk2 A1.out
  go_wp2
  go_ret
  exact ⟨rfl, L1.out⟩
set_option maxRecDepth 100000 in
set_option maxHeartbeats 1000000 in
theorem r4print_one (n d : ByteArray) (hv : rV (n, d) = true) (h1 : d = ⟨#[49]⟩) (w : World) (ha : Sz (n, d)) :
    Calls Tryz.prog 16 #[.agg #[.string n, .string d]] w fun e w' => e = .returned (.string n) ∧ Below w.heap.size w w' := by
  have VA := Lib.hid (fun w => ref4Valid_is hv w ha)
  obtain ⟨v1, v2, _, _⟩ := rV_parts hv
  simp only at v1 v2
  have z1 := vS_size v1
  have z2 := vS_size v2
  have t1 : (d.toList == [49]) = true := by rw [eq49 v2, (nS_one_iff v2).2 h1]; rfl
  clear hv ha h1 v1 v2
  have q0 : Blk (w.alloc (.cells #[.string n, .string d] 23)) (w.heap.size) #[.string n, .string d] 23 := Blk.new w _ _
  have qL : Below w.heap.size w (w.alloc (.cells #[.string n, .string d] 23)) := (Below.refl _ w).alloc (Nat.le_refl _) _
  have A0 := Lib.hid q0
  have L0 := Lib.hid qL
  clear qL q0
  go_enter Tryz.func16, Tryz.ntmps16
  go_wp2_with fail
  try simp only [Nat.add_assoc, Nat.reduceAdd]
  generalize (w.alloc (.cells #[.string n, .string d] 23)) = w0 at *
  obtain ⟨a00, a01, a0f, a0g, a0l⟩ := blk2 A0.out
  refine (VA.out _).mono ?_
  rintro e w1 ⟨rfl, hb1⟩
  have A1 := Lib.hid (Blk.below A0.out hb1 A0.out.lt)
  have L1 := Lib.hid (L0.out.trans (hb1.mono L0.out.size))
  clear hb1
  obtain ⟨a10, a11, a1f, a1g, a1l⟩ := blk2 A1.out
  go_wp2
  go_ret
  exact ⟨rfl, L1.out⟩
set_option maxRecDepth 100000 in
set_option maxHeartbeats 1000000 in
theorem r4print_two (n d : ByteArray) (hv : rV (n, d) = true) (h1 : d ≠ ⟨#[49]⟩) (w : World) (ha : Sz (n, d)) :
    Calls Tryz.prog 16 #[.agg #[.string n, .string d]] w fun e w' => e = .returned (.string ⟨(n.data.toList ++ [47] ++ d.data.toList).toArray⟩) ∧ Below w.heap.size w w' := by
  have VA := Lib.hid (fun w => ref4Valid_is hv w ha)
  obtain ⟨v1, v2, _, _⟩ := rV_parts hv
  simp only at v1 v2
  have z1 := vS_size v1
  have z2 := vS_size v2
  have t1 : (d.toList == [49]) = false := by rw [eq49 v2]; simp only [decide_eq_false_iff_not]; exact fun e => h1 ((nS_one_iff v2).1 e)
  have hz : (n ++ ⟨#[47]⟩ : ByteArray).size ≤ 1000 := by rw [← ba_len]; simp; omega
  clear hv ha h1 v1 v2
  have q0 : Blk (w.alloc (.cells #[.string n, .string d] 23)) (w.heap.size) #[.string n, .string d] 23 := Blk.new w _ _
  have qL : Below w.heap.size w (w.alloc (.cells #[.string n, .string d] 23)) := (Below.refl _ w).alloc (Nat.le_refl _) _
  have A0 := Lib.hid q0
  have L0 := Lib.hid qL
  clear qL q0
  go_enter Tryz.func16, Tryz.ntmps16
  go_wp2_with fail
  try simp only [Nat.add_assoc, Nat.reduceAdd]
  generalize (w.alloc (.cells #[.string n, .string d] 23)) = w0 at *
  obtain ⟨a00, a01, a0f, a0g, a0l⟩ := blk2 A0.out
  refine (VA.out _).mono ?_
  rintro e w1 ⟨rfl, hb1⟩
  have A1 := Lib.hid (Blk.below A0.out hb1 A0.out.lt)
  have L1 := Lib.hid (L0.out.trans (hb1.mono L0.out.size))
  clear hb1
  obtain ⟨a10, a11, a1f, a1g, a1l⟩ := blk2 A1.out
  go_wp2
  go_ret
  exact ⟨ret_str (ba_ext (by simp)), L1.out⟩
theorem ref4Print_any (a : RS) (w : World) (ha : Sz a) : Calls Tryz.prog 16 #[vR a] w fun e w' => e = .returned (.string (rPrint a)) ∧ Below w.heap.size w w' := by
  obtain ⟨n, d⟩ := a
  cases hv : rV (n, d) with
  | false => rw [rPrint_no hv]; exact r4print_no n d hv w ha
  | true =>
    by_cases h1 : d = ⟨#[49]⟩
    · rw [rPrint_one hv h1]; exact r4print_one n d hv h1 w ha
    · rw [rPrint_two hv h1]; exact r4print_two n d hv h1 w ha
/-- Where the first slash stands. -/
theorem slash_at {l : List UInt8} (h : l.contains 47 = true) : ∃ m, m < l.length ∧ l[m]? = some 47 ∧ (∀ (k : Nat) c, k < m → l[k]? = some c → c ≠ 47) ∧ (rSplit l).1 = l.take m ∧ (rSplit l).2 = l.drop (m + 1) := by
  obtain ⟨tw, htw⟩ : ∃ x, l.takeWhile (· != 47) = x := ⟨_, rfl⟩
  obtain ⟨c, t, hct⟩ : ∃ c t, l.dropWhile (· != 47) = c :: t := by
    cases hd : l.dropWhile (· != 47) with
    | nil =>
      have h2 := (dropWhile_nil_iff _ l).1 hd
      rw [List.contains_iff_mem] at h
      have := List.all_eq_true.1 h2 47 h
      simp at this
    | cons c t => exact ⟨c, t, rfl⟩
  have hc : c = 47 := by
    have := List.head?_dropWhile_not (· != 47) l
    rw [hct] at this
    simpa using this
  subst hc
  have e : l = tw ++ 47 :: t := by rw [← htw, ← hct]; exact List.takeWhile_append_dropWhile.symm
  have hall : ∀ c ∈ tw, c ≠ 47 := by
    intro c hc h47
    subst h47
    have := List.all_takeWhile (p := (· != 47)) (l := l)
    rw [htw, List.all_eq_true] at this
    have := this 47 hc
    simp at this
  refine ⟨tw.length, by rw [e]; simp, by rw [e]; simp, ?_, ?_, ?_⟩
  · intro k c hk hc2
    rw [e, List.getElem?_append_left hk] at hc2
    exact hall c (List.mem_of_getElem? hc2)
  · unfold rSplit
    rw [if_pos h, htw]
    show tw = _
    rw [e, List.take_left]
  · unfold rSplit
    rw [if_pos h, hct]
    show t = _
    rw [e, ← List.drop_drop, List.drop_left]; rfl
theorem byte_ne {c : UInt8} (h : c ≠ 47) : ((c.toNat : Int) == 47) = false := by
  rw [beq_eq_false_iff_ne]
  intro h2
  apply h
  apply UInt8.toNat_inj.1
  have : c.toNat = 47 := by omega
  rw [this]; rfl
theorem parse_ok4 {s : ByteArray} (hv : rV (rOf s) = true) (h : rPrint (rOf s) = s) : rParse s = (rOf s, 0) := by unfold rParse; rw [if_pos (by simp [hv, h])]
theorem parse_no4 {s : ByteArray} (h : rV (rOf s) = false) : rParse s = (noR, 40) := by unfold rParse; rw [if_neg (by simp [h])]
set_option maxRecDepth 100000 in
set_option maxHeartbeats 1000000 in
theorem r4parse_inv_false (s : ByteArray) (his : s.data.toList.contains 47 = false) (hv : rV (rOf s) = false) (w : World) (hs : s.size ≤ 100000) :
    Calls Tryz.prog 19 #[.string s] w (RatPost (rParse s) w) := by
  rw [parse_no4 hv]
  have hz := rOf_size s
  have hsz : Sz (rOf s) := ⟨by unfold maxLen; omega, by unfold maxLen; omega⟩
  have e1 : (rOf s).1 = s := by unfold rOf rSplit; rw [if_neg (by rw [his]; simp)]
  have e2 := rOf_one his
  have hno : ∀ (k : Nat) (c : UInt8), s.data.toList[k]? = some c → c ≠ 47 := by
    intro k c hc h; subst h
    have := List.contains_iff_mem.2 (List.mem_of_getElem? hc)
    rw [his] at this; cases this
  have Hno := Lib.hid hno
  obtain ⟨⟨n, d⟩, hr⟩ : ∃ r, rOf s = r := ⟨_, rfl⟩
  rw [hr] at hv hsz e1 e2
  simp only at e1 e2
  have VA := Lib.hid (fun w => ref4Valid_is hv w hsz)
  subst e1
  subst e2
  have q0 : Blk ((w.alloc (.cells #[.string ⟨#[]⟩, .string ⟨#[]⟩] 23)).alloc (.cells #[.string n, .string ⟨#[49]⟩] 23)) (w.heap.size) #[.string ⟨#[]⟩, .string ⟨#[]⟩] 23 := (Blk.new w _ _).alloc _
  have q1 : Blk ((w.alloc (.cells #[.string ⟨#[]⟩, .string ⟨#[]⟩] 23)).alloc (.cells #[.string n, .string ⟨#[49]⟩] 23)) (w.heap.size + 1) #[.string n, .string ⟨#[49]⟩] 23 := Blk.newAt _ _ _ (by simp)
  have qL : Below w.heap.size w ((w.alloc (.cells #[.string ⟨#[]⟩, .string ⟨#[]⟩] 23)).alloc (.cells #[.string n, .string ⟨#[49]⟩] 23)) := ((Below.refl _ w).alloc (Nat.le_refl _) _).alloc (by simp <;> omega) _
  have R0 := Lib.hid q0
  have N0 := Lib.hid q1
  have L0 := Lib.hid qL
  clear qL q0 q1
  clear hv hsz hr hz his hno
  go_enter Tryz.func19, Tryz.ntmps19
  go_wp2
  try simp only [Nat.add_assoc, Nat.reduceAdd]
  generalize ((w.alloc (.cells #[.string ⟨#[]⟩, .string ⟨#[]⟩] 23)).alloc (.cells #[.string n, .string ⟨#[49]⟩] 23)) = w0 at *
  obtain ⟨r00, r01, r0f, r0g, r0l⟩ := blk2 R0.out
  obtain ⟨n00, n01, n0f, n0g, n0l⟩ := blk2 N0.out
  go_loop [5] (fun vi => ∃ k : Nat, k ≤ n.size ∧ vi = .int .i64 (k : Int)) (fun vi => n.size - (intOf vi).toNat)
  case atStart => exact ⟨0, Nat.zero_le _, rfl⟩
  case round =>
    obtain ⟨k, hk, rfl⟩ := hrel
    by_cases hlt : k < n.size
    · have hc := Hno.out k _ (ba_at n k hlt)
      have t1 : ((n[k].toNat : Int) == 47) = false := byte_ne hc
      clear hc
      go_wp2
      go_round
      case rel => exact ⟨k + 1, by omega, by go_num⟩
      case measure => simp [intOf]; omega
    · obtain rfl : k = n.size := by omega
      go_wp2_with fail
      refine (VA.out _).mono ?_
      rintro e w1 ⟨rfl, hb1⟩
      have R1 := Lib.hid (Blk.below R0.out hb1 R0.out.lt)
      have N1 := Lib.hid (Blk.below N0.out hb1 N0.out.lt)
      have L1 := Lib.hid (L0.out.trans (hb1.mono L0.out.size))
      clear hb1
      obtain ⟨r10, r11, r1f, r1g, r1l⟩ := blk2 R1.out
      obtain ⟨n10, n11, n1f, n1g, n1l⟩ := blk2 N1.out
      go_wp2
      refine bodyPost_ret (v := vRE (noR, 40)) (by simp [results, Tryz.results19, go_sem, noR, n10, n11, r10, r11, r1f, r1g, r1l]; rfl) rfl ⟨rfl, ?_⟩
      exact (L1.out.setCell (by simp) _).setCell (by simp) _
set_option maxRecDepth 100000 in
set_option maxHeartbeats 1000000 in
theorem r4parse_err_false (s : ByteArray) (his : s.data.toList.contains 47 = false) (hv : rV (rOf s) = true) (h1 : rPrint (rOf s) ≠ s) (w : World) (hs : s.size ≤ 100000) :
    Calls Tryz.prog 19 #[.string s] w (RatPost (rParse s) w) := by
  rw [rParse_err1 h1]
  have hz := rOf_size s
  have hsz : Sz (rOf s) := ⟨by unfold maxLen; omega, by unfold maxLen; omega⟩
  have e1 : (rOf s).1 = s := by unfold rOf rSplit; rw [if_neg (by rw [his]; simp)]
  have e2 := rOf_one his
  have hno : ∀ (k : Nat) (c : UInt8), s.data.toList[k]? = some c → c ≠ 47 := by
    intro k c hc h; subst h
    have := List.contains_iff_mem.2 (List.mem_of_getElem? hc)
    rw [his] at this; cases this
  have Hno := Lib.hid hno
  obtain ⟨⟨n, d⟩, hr⟩ : ∃ r, rOf s = r := ⟨_, rfl⟩
  rw [hr] at hv hsz e1 e2 h1
  simp only at e1 e2
  have VA := Lib.hid (fun w => ref4Valid_is hv w hsz)
  have HP := Lib.hid (fun w => ref4Print_any (n, d) w hsz)
  generalize rPrint (n, d) = tp at *
  have q1 : (tp.toList == s.toList) = false := by rw [toList_beq]; simp [h1]
  subst e1
  subst e2
  have q0 : Blk ((w.alloc (.cells #[.string ⟨#[]⟩, .string ⟨#[]⟩] 23)).alloc (.cells #[.string n, .string ⟨#[49]⟩] 23)) (w.heap.size) #[.string ⟨#[]⟩, .string ⟨#[]⟩] 23 := (Blk.new w _ _).alloc _
  have q1 : Blk ((w.alloc (.cells #[.string ⟨#[]⟩, .string ⟨#[]⟩] 23)).alloc (.cells #[.string n, .string ⟨#[49]⟩] 23)) (w.heap.size + 1) #[.string n, .string ⟨#[49]⟩] 23 := Blk.newAt _ _ _ (by simp)
  have qL : Below w.heap.size w ((w.alloc (.cells #[.string ⟨#[]⟩, .string ⟨#[]⟩] 23)).alloc (.cells #[.string n, .string ⟨#[49]⟩] 23)) := ((Below.refl _ w).alloc (Nat.le_refl _) _).alloc (by simp <;> omega) _
  have R0 := Lib.hid q0
  have N0 := Lib.hid q1
  have L0 := Lib.hid qL
  clear qL q0 q1
  clear hv hsz hr hz his hno h1
  go_enter Tryz.func19, Tryz.ntmps19
  go_wp2
  try simp only [Nat.add_assoc, Nat.reduceAdd]
  generalize ((w.alloc (.cells #[.string ⟨#[]⟩, .string ⟨#[]⟩] 23)).alloc (.cells #[.string n, .string ⟨#[49]⟩] 23)) = w0 at *
  obtain ⟨r00, r01, r0f, r0g, r0l⟩ := blk2 R0.out
  obtain ⟨n00, n01, n0f, n0g, n0l⟩ := blk2 N0.out
  go_loop [5] (fun vi => ∃ k : Nat, k ≤ n.size ∧ vi = .int .i64 (k : Int)) (fun vi => n.size - (intOf vi).toNat)
  case atStart => exact ⟨0, Nat.zero_le _, rfl⟩
  case round =>
    obtain ⟨k, hk, rfl⟩ := hrel
    by_cases hlt : k < n.size
    · have hc := Hno.out k _ (ba_at n k hlt)
      have t1 : ((n[k].toNat : Int) == 47) = false := byte_ne hc
      clear hc
      go_wp2
      go_round
      case rel => exact ⟨k + 1, by omega, by go_num⟩
      case measure => simp [intOf]; omega
    · obtain rfl : k = n.size := by omega
      go_wp2_with fail
      refine (VA.out _).mono ?_
      rintro e w1 ⟨rfl, hb1⟩
      have R1 := Lib.hid (Blk.below R0.out hb1 R0.out.lt)
      have N1 := Lib.hid (Blk.below N0.out hb1 N0.out.lt)
      have L1 := Lib.hid (L0.out.trans (hb1.mono L0.out.size))
      clear hb1
      obtain ⟨r10, r11, r1f, r1g, r1l⟩ := blk2 R1.out
      obtain ⟨n10, n11, n1f, n1g, n1l⟩ := blk2 N1.out
      go_wp2_with fail
      refine (HP.out _).mono ?_
      rintro e w2 ⟨rfl, hb2⟩
      have R2 := Lib.hid (Blk.below R1.out hb2 R1.out.lt)
      have N2 := Lib.hid (Blk.below N1.out hb2 N1.out.lt)
      have L2 := Lib.hid (L1.out.trans (hb2.mono L1.out.size))
      clear hb2
      obtain ⟨r20, r21, r2f, r2g, r2l⟩ := blk2 R2.out
      obtain ⟨n20, n21, n2f, n2g, n2l⟩ := blk2 N2.out
      go_wp2
      refine bodyPost_ret (v := vRE (noR, 40)) (by simp [results, Tryz.results19, go_sem, noR, n20, n21, r20, r21, r2f, r2g, r2l]; rfl) rfl ⟨rfl, ?_⟩
      exact (L2.out.setCell (by simp) _).setCell (by simp) _
set_option maxRecDepth 100000 in
set_option maxHeartbeats 1000000 in
theorem r4parse_yes_false (s : ByteArray) (his : s.data.toList.contains 47 = false) (hv : rV (rOf s) = true) (h1 : rPrint (rOf s) = s) (w : World) (hs : s.size ≤ 100000) :
    Calls Tryz.prog 19 #[.string s] w (RatPost (rParse s) w) := by
  rw [parse_ok4 hv h1]
  have hz := rOf_size s
  have hsz : Sz (rOf s) := ⟨by unfold maxLen; omega, by unfold maxLen; omega⟩
  have e1 : (rOf s).1 = s := by unfold rOf rSplit; rw [if_neg (by rw [his]; simp)]
  have e2 := rOf_one his
  have hno : ∀ (k : Nat) (c : UInt8), s.data.toList[k]? = some c → c ≠ 47 := by
    intro k c hc h; subst h
    have := List.contains_iff_mem.2 (List.mem_of_getElem? hc)
    rw [his] at this; cases this
  have Hno := Lib.hid hno
  obtain ⟨⟨n, d⟩, hr⟩ : ∃ r, rOf s = r := ⟨_, rfl⟩
  rw [hr] at hv hsz e1 e2 h1 ⊢
  simp only at e1 e2
  have VA := Lib.hid (fun w => ref4Valid_is hv w hsz)
  have HP := Lib.hid (fun w => ref4Print_any (n, d) w hsz)
  generalize rPrint (n, d) = tp at *
  have q1 : (tp.toList == s.toList) = true := by rw [toList_beq]; simp [h1]
  subst e1
  subst e2
  have q0 : Blk ((w.alloc (.cells #[.string ⟨#[]⟩, .string ⟨#[]⟩] 23)).alloc (.cells #[.string n, .string ⟨#[49]⟩] 23)) (w.heap.size) #[.string ⟨#[]⟩, .string ⟨#[]⟩] 23 := (Blk.new w _ _).alloc _
  have q1 : Blk ((w.alloc (.cells #[.string ⟨#[]⟩, .string ⟨#[]⟩] 23)).alloc (.cells #[.string n, .string ⟨#[49]⟩] 23)) (w.heap.size + 1) #[.string n, .string ⟨#[49]⟩] 23 := Blk.newAt _ _ _ (by simp)
  have qL : Below w.heap.size w ((w.alloc (.cells #[.string ⟨#[]⟩, .string ⟨#[]⟩] 23)).alloc (.cells #[.string n, .string ⟨#[49]⟩] 23)) := ((Below.refl _ w).alloc (Nat.le_refl _) _).alloc (by simp <;> omega) _
  have R0 := Lib.hid q0
  have N0 := Lib.hid q1
  have L0 := Lib.hid qL
  clear qL q0 q1
  clear hv hsz hr hz his hno h1
  go_enter Tryz.func19, Tryz.ntmps19
  go_wp2
  try simp only [Nat.add_assoc, Nat.reduceAdd]
  generalize ((w.alloc (.cells #[.string ⟨#[]⟩, .string ⟨#[]⟩] 23)).alloc (.cells #[.string n, .string ⟨#[49]⟩] 23)) = w0 at *
  obtain ⟨r00, r01, r0f, r0g, r0l⟩ := blk2 R0.out
  obtain ⟨n00, n01, n0f, n0g, n0l⟩ := blk2 N0.out
  go_loop [5] (fun vi => ∃ k : Nat, k ≤ n.size ∧ vi = .int .i64 (k : Int)) (fun vi => n.size - (intOf vi).toNat)
  case atStart => exact ⟨0, Nat.zero_le _, rfl⟩
  case round =>
    obtain ⟨k, hk, rfl⟩ := hrel
    by_cases hlt : k < n.size
    · have hc := Hno.out k _ (ba_at n k hlt)
      have t1 : ((n[k].toNat : Int) == 47) = false := byte_ne hc
      clear hc
      go_wp2
      go_round
      case rel => exact ⟨k + 1, by omega, by go_num⟩
      case measure => simp [intOf]; omega
    · obtain rfl : k = n.size := by omega
      go_wp2_with fail
      refine (VA.out _).mono ?_
      rintro e w1 ⟨rfl, hb1⟩
      have R1 := Lib.hid (Blk.below R0.out hb1 R0.out.lt)
      have N1 := Lib.hid (Blk.below N0.out hb1 N0.out.lt)
      have L1 := Lib.hid (L0.out.trans (hb1.mono L0.out.size))
      clear hb1
      obtain ⟨r10, r11, r1f, r1g, r1l⟩ := blk2 R1.out
      obtain ⟨n10, n11, n1f, n1g, n1l⟩ := blk2 N1.out
      go_wp2_with fail
      refine (HP.out _).mono ?_
      rintro e w2 ⟨rfl, hb2⟩
      have R2 := Lib.hid (Blk.below R1.out hb2 R1.out.lt)
      have N2 := Lib.hid (Blk.below N1.out hb2 N1.out.lt)
      have L2 := Lib.hid (L1.out.trans (hb2.mono L1.out.size))
      clear hb2
      obtain ⟨r20, r21, r2f, r2g, r2l⟩ := blk2 R2.out
      obtain ⟨n20, n21, n2f, n2g, n2l⟩ := blk2 N2.out
      go_wp2
      refine bodyPost_ret (v := vRE ((n, ⟨#[49]⟩), 0)) (by simp [results, Tryz.results19, go_sem, n20, n21, r20, r21, r2f, r2g, r2l]) rfl ⟨rfl, ?_⟩
      exact (L2.out.setCell (by simp) _).setCell (by simp) _
set_option maxRecDepth 100000 in
set_option maxHeartbeats 1000000 in
theorem r4parse_inv_true (s : ByteArray) (his : s.data.toList.contains 47 = true) (hv : rV (rOf s) = false) (w : World) (hs : s.size ≤ 100000) :
    Calls Tryz.prog 19 #[.string s] w (RatPost (rParse s) w) := by
  rw [parse_no4 hv]
  have hz := rOf_size s
  have hsz : Sz (rOf s) := ⟨by unfold maxLen; omega, by unfold maxLen; omega⟩
  obtain ⟨m, hm, hm47, hmno, hm1, hm2⟩ := slash_at his
  rw [ba_len] at hm
  have e1 : (rOf s).1 = s.extract 0 m := by unfold rOf; rw [hm1]; apply ba_ext; rw [ByteArray.data_extract]; simp
  have e2 : (rOf s).2 = s.extract (m + 1) s.size := by unfold rOf; rw [hm2]; apply ba_ext; rw [Lib.extract_to_end]
  have Hno := Lib.hid hmno
  have Hm47 := Lib.hid hm47
  obtain ⟨⟨n, d⟩, hr⟩ : ∃ r, rOf s = r := ⟨_, rfl⟩
  rw [hr] at hv hsz e1 e2
  simp only at e1 e2
  have VA := Lib.hid (fun w => ref4Valid_is hv w hsz)
  have q0 : Blk ((w.alloc (.cells #[.string ⟨#[]⟩, .string ⟨#[]⟩] 23)).alloc (.cells #[.string s, .string ⟨#[49]⟩] 23)) (w.heap.size) #[.string ⟨#[]⟩, .string ⟨#[]⟩] 23 := (Blk.new w _ _).alloc _
  have q1 : Blk ((w.alloc (.cells #[.string ⟨#[]⟩, .string ⟨#[]⟩] 23)).alloc (.cells #[.string s, .string ⟨#[49]⟩] 23)) (w.heap.size + 1) #[.string s, .string ⟨#[49]⟩] 23 := Blk.newAt _ _ _ (by simp)
  have qL : Below w.heap.size w ((w.alloc (.cells #[.string ⟨#[]⟩, .string ⟨#[]⟩] 23)).alloc (.cells #[.string s, .string ⟨#[49]⟩] 23)) := ((Below.refl _ w).alloc (Nat.le_refl _) _).alloc (by simp <;> omega) _
  have R0 := Lib.hid q0
  have N0 := Lib.hid q1
  have L0 := Lib.hid qL
  clear qL q0 q1
  clear hv hsz hr hz his hmno hm1 hm2 hm47
  have E1 := e1.symm
  have E2 := e2.symm
  clear e1 e2
  have HE1 := Lib.hid E1
  have HE2 := Lib.hid E2
  clear E1 E2
  have hmx : Tryz.prog.follows .mixedOrders = true := by kernel_rfl
  go_enter Tryz.func19, Tryz.ntmps19
  go_wp2
  try simp only [Nat.add_assoc, Nat.reduceAdd]
  generalize ((w.alloc (.cells #[.string ⟨#[]⟩, .string ⟨#[]⟩] 23)).alloc (.cells #[.string s, .string ⟨#[49]⟩] 23)) = w0 at *
  obtain ⟨r00, r01, r0f, r0g, r0l⟩ := blk2 R0.out
  obtain ⟨n00, n01, n0f, n0g, n0l⟩ := blk2 N0.out
  go_loop [5] (fun vi => ∃ k : Nat, k ≤ m ∧ vi = .int .i64 (k : Int)) (fun vi => m - (intOf vi).toNat)
  case atStart => exact ⟨0, Nat.zero_le _, rfl⟩
  case round =>
    obtain ⟨k, hk, rfl⟩ := hrel
    have hkn : k < s.size := by omega
    by_cases hlt : k < m
    · have hc := Hno.out k _ hlt (ba_at s k hkn)
      have t1 : ((s[k].toNat : Int) == 47) = false := byte_ne hc
      clear hc
      go_wp2
      go_round
      case rel => exact ⟨k + 1, by omega, by go_num⟩
      case measure => simp [intOf]; omega
    · obtain rfl : k = m := by omega
      have hc : s[k] = 47 := by have := ba_at s k hkn; rw [Hm47.out] at this; exact (Option.some.inj this).symm
      have t1 : ((s[k].toNat : Int) == 47) = true := by rw [hc]; rfl
      clear hc
      have b1 : (0 : Int) ≤ (k : Int) := by omega
      have b2 : (k : Int) ≤ (s.size : Int) := by omega
      have b3 : (k : Int) + 1 ≤ (s.size : Int) := by omega
      have E1 := HE1.out
      have E2 := HE2.out
      go_wp2
      go_region
      have N1 : Hid (Blk (((w0.setCell ⟨w.heap.size + 1, 0, none⟩ (.string n)).setCell ⟨w.heap.size + 1, 1, none⟩ (.string d)).drew) (w.heap.size + 1) #[.string n, .string d] 23) := Lib.hid (Blk.drewN ((Blk.set N0.out 0 (.string n)).set 1 (.string d)) 1)
      have R1 : Hid (Blk (((w0.setCell ⟨w.heap.size + 1, 0, none⟩ (.string n)).setCell ⟨w.heap.size + 1, 1, none⟩ (.string d)).drew) w.heap.size #[.string ⟨#[]⟩, .string ⟨#[]⟩] 23) := Lib.hid (Blk.drewN ((Blk.setOther R0.out (a := ⟨w.heap.size + 1, 0, none⟩) (by simp) _).setOther (a := ⟨w.heap.size + 1, 1, none⟩) (by simp) _) 1)
      have L1 : Hid (Below w.heap.size w (((w0.setCell ⟨w.heap.size + 1, 0, none⟩ (.string n)).setCell ⟨w.heap.size + 1, 1, none⟩ (.string d)).drew)) := Lib.hid (((L0.out.setCell (p := ⟨w.heap.size + 1, 0, none⟩) (by simp) _).setCell (p := ⟨w.heap.size + 1, 1, none⟩) (by simp) _).drew)
      generalize (((w0.setCell ⟨w.heap.size + 1, 0, none⟩ (.string n)).setCell ⟨w.heap.size + 1, 1, none⟩ (.string d)).drew) = w1 at *
      clear E1 E2
      obtain ⟨n10, n11, n1f, n1g, n1l⟩ := blk2 N1.out
      obtain ⟨r10, r11, r1f, r1g, r1l⟩ := blk2 R1.out
      go_wp2_with fail
      refine (VA.out _).mono ?_
      rintro e w2 ⟨rfl, hb2⟩
      have R2 := Lib.hid (Blk.below R1.out hb2 R1.out.lt)
      have N2 := Lib.hid (Blk.below N1.out hb2 N1.out.lt)
      have L2 := Lib.hid (L1.out.trans (hb2.mono L1.out.size))
      clear hb2
      obtain ⟨r20, r21, r2f, r2g, r2l⟩ := blk2 R2.out
      obtain ⟨n20, n21, n2f, n2g, n2l⟩ := blk2 N2.out
      go_wp2
      refine bodyPost_ret (v := vRE (noR, 40)) (by simp [results, Tryz.results19, go_sem, noR, n20, n21, r20, r21, r2f, r2g, r2l]; rfl) rfl ⟨rfl, ?_⟩
      exact (L2.out.setCell (by simp) _).setCell (by simp) _
set_option maxRecDepth 100000 in
set_option maxHeartbeats 1000000 in
theorem r4parse_err_true (s : ByteArray) (his : s.data.toList.contains 47 = true) (hv : rV (rOf s) = true) (h1 : rPrint (rOf s) ≠ s) (w : World) (hs : s.size ≤ 100000) :
    Calls Tryz.prog 19 #[.string s] w (RatPost (rParse s) w) := by
  rw [rParse_err1 h1]
  have hz := rOf_size s
  have hsz : Sz (rOf s) := ⟨by unfold maxLen; omega, by unfold maxLen; omega⟩
  obtain ⟨m, hm, hm47, hmno, hm1, hm2⟩ := slash_at his
  rw [ba_len] at hm
  have e1 : (rOf s).1 = s.extract 0 m := by unfold rOf; rw [hm1]; apply ba_ext; rw [ByteArray.data_extract]; simp
  have e2 : (rOf s).2 = s.extract (m + 1) s.size := by unfold rOf; rw [hm2]; apply ba_ext; rw [Lib.extract_to_end]
  have Hno := Lib.hid hmno
  have Hm47 := Lib.hid hm47
  obtain ⟨⟨n, d⟩, hr⟩ : ∃ r, rOf s = r := ⟨_, rfl⟩
  rw [hr] at hv hsz e1 e2 h1
  simp only at e1 e2
  have VA := Lib.hid (fun w => ref4Valid_is hv w hsz)
  have HP := Lib.hid (fun w => ref4Print_any (n, d) w hsz)
  generalize rPrint (n, d) = tp at *
  have q1 : (tp.toList == s.toList) = false := by rw [toList_beq]; simp [h1]
  have q0 : Blk ((w.alloc (.cells #[.string ⟨#[]⟩, .string ⟨#[]⟩] 23)).alloc (.cells #[.string s, .string ⟨#[49]⟩] 23)) (w.heap.size) #[.string ⟨#[]⟩, .string ⟨#[]⟩] 23 := (Blk.new w _ _).alloc _
  have q1 : Blk ((w.alloc (.cells #[.string ⟨#[]⟩, .string ⟨#[]⟩] 23)).alloc (.cells #[.string s, .string ⟨#[49]⟩] 23)) (w.heap.size + 1) #[.string s, .string ⟨#[49]⟩] 23 := Blk.newAt _ _ _ (by simp)
  have qL : Below w.heap.size w ((w.alloc (.cells #[.string ⟨#[]⟩, .string ⟨#[]⟩] 23)).alloc (.cells #[.string s, .string ⟨#[49]⟩] 23)) := ((Below.refl _ w).alloc (Nat.le_refl _) _).alloc (by simp <;> omega) _
  have R0 := Lib.hid q0
  have N0 := Lib.hid q1
  have L0 := Lib.hid qL
  clear qL q0 q1
  clear hv hsz hr hz his hmno hm1 hm2 hm47 h1
  have E1 := e1.symm
  have E2 := e2.symm
  clear e1 e2
  have HE1 := Lib.hid E1
  have HE2 := Lib.hid E2
  clear E1 E2
  have hmx : Tryz.prog.follows .mixedOrders = true := by kernel_rfl
  go_enter Tryz.func19, Tryz.ntmps19
  go_wp2
  try simp only [Nat.add_assoc, Nat.reduceAdd]
  generalize ((w.alloc (.cells #[.string ⟨#[]⟩, .string ⟨#[]⟩] 23)).alloc (.cells #[.string s, .string ⟨#[49]⟩] 23)) = w0 at *
  obtain ⟨r00, r01, r0f, r0g, r0l⟩ := blk2 R0.out
  obtain ⟨n00, n01, n0f, n0g, n0l⟩ := blk2 N0.out
  go_loop [5] (fun vi => ∃ k : Nat, k ≤ m ∧ vi = .int .i64 (k : Int)) (fun vi => m - (intOf vi).toNat)
  case atStart => exact ⟨0, Nat.zero_le _, rfl⟩
  case round =>
    obtain ⟨k, hk, rfl⟩ := hrel
    have hkn : k < s.size := by omega
    by_cases hlt : k < m
    · have hc := Hno.out k _ hlt (ba_at s k hkn)
      have t1 : ((s[k].toNat : Int) == 47) = false := byte_ne hc
      clear hc
      go_wp2
      go_round
      case rel => exact ⟨k + 1, by omega, by go_num⟩
      case measure => simp [intOf]; omega
    · obtain rfl : k = m := by omega
      have hc : s[k] = 47 := by have := ba_at s k hkn; rw [Hm47.out] at this; exact (Option.some.inj this).symm
      have t1 : ((s[k].toNat : Int) == 47) = true := by rw [hc]; rfl
      clear hc
      have b1 : (0 : Int) ≤ (k : Int) := by omega
      have b2 : (k : Int) ≤ (s.size : Int) := by omega
      have b3 : (k : Int) + 1 ≤ (s.size : Int) := by omega
      have E1 := HE1.out
      have E2 := HE2.out
      go_wp2
      go_region
      have N1 : Hid (Blk (((w0.setCell ⟨w.heap.size + 1, 0, none⟩ (.string n)).setCell ⟨w.heap.size + 1, 1, none⟩ (.string d)).drew) (w.heap.size + 1) #[.string n, .string d] 23) := Lib.hid (Blk.drewN ((Blk.set N0.out 0 (.string n)).set 1 (.string d)) 1)
      have R1 : Hid (Blk (((w0.setCell ⟨w.heap.size + 1, 0, none⟩ (.string n)).setCell ⟨w.heap.size + 1, 1, none⟩ (.string d)).drew) w.heap.size #[.string ⟨#[]⟩, .string ⟨#[]⟩] 23) := Lib.hid (Blk.drewN ((Blk.setOther R0.out (a := ⟨w.heap.size + 1, 0, none⟩) (by simp) _).setOther (a := ⟨w.heap.size + 1, 1, none⟩) (by simp) _) 1)
      have L1 : Hid (Below w.heap.size w (((w0.setCell ⟨w.heap.size + 1, 0, none⟩ (.string n)).setCell ⟨w.heap.size + 1, 1, none⟩ (.string d)).drew)) := Lib.hid (((L0.out.setCell (p := ⟨w.heap.size + 1, 0, none⟩) (by simp) _).setCell (p := ⟨w.heap.size + 1, 1, none⟩) (by simp) _).drew)
      generalize (((w0.setCell ⟨w.heap.size + 1, 0, none⟩ (.string n)).setCell ⟨w.heap.size + 1, 1, none⟩ (.string d)).drew) = w1 at *
      clear E1 E2
      obtain ⟨n10, n11, n1f, n1g, n1l⟩ := blk2 N1.out
      obtain ⟨r10, r11, r1f, r1g, r1l⟩ := blk2 R1.out
      go_wp2_with fail
      refine (VA.out _).mono ?_
      rintro e w2 ⟨rfl, hb2⟩
      have R2 := Lib.hid (Blk.below R1.out hb2 R1.out.lt)
      have N2 := Lib.hid (Blk.below N1.out hb2 N1.out.lt)
      have L2 := Lib.hid (L1.out.trans (hb2.mono L1.out.size))
      clear hb2
      obtain ⟨r20, r21, r2f, r2g, r2l⟩ := blk2 R2.out
      obtain ⟨n20, n21, n2f, n2g, n2l⟩ := blk2 N2.out
      go_wp2_with fail
      refine (HP.out _).mono ?_
      rintro e w3 ⟨rfl, hb3⟩
      have R3 := Lib.hid (Blk.below R2.out hb3 R2.out.lt)
      have N3 := Lib.hid (Blk.below N2.out hb3 N2.out.lt)
      have L3 := Lib.hid (L2.out.trans (hb3.mono L2.out.size))
      clear hb3
      obtain ⟨r30, r31, r3f, r3g, r3l⟩ := blk2 R3.out
      obtain ⟨n30, n31, n3f, n3g, n3l⟩ := blk2 N3.out
      go_wp2
      refine bodyPost_ret (v := vRE (noR, 40)) (by simp [results, Tryz.results19, go_sem, noR, n30, n31, r30, r31, r3f, r3g, r3l]; rfl) rfl ⟨rfl, ?_⟩
      exact (L3.out.setCell (by simp) _).setCell (by simp) _
set_option maxRecDepth 100000 in
set_option maxHeartbeats 1000000 in
theorem r4parse_yes_true (s : ByteArray) (his : s.data.toList.contains 47 = true) (hv : rV (rOf s) = true) (h1 : rPrint (rOf s) = s) (w : World) (hs : s.size ≤ 100000) :
    Calls Tryz.prog 19 #[.string s] w (RatPost (rParse s) w) := by
  rw [parse_ok4 hv h1]
  have hz := rOf_size s
  have hsz : Sz (rOf s) := ⟨by unfold maxLen; omega, by unfold maxLen; omega⟩
  obtain ⟨m, hm, hm47, hmno, hm1, hm2⟩ := slash_at his
  rw [ba_len] at hm
  have e1 : (rOf s).1 = s.extract 0 m := by unfold rOf; rw [hm1]; apply ba_ext; rw [ByteArray.data_extract]; simp
  have e2 : (rOf s).2 = s.extract (m + 1) s.size := by unfold rOf; rw [hm2]; apply ba_ext; rw [Lib.extract_to_end]
  have Hno := Lib.hid hmno
  have Hm47 := Lib.hid hm47
  obtain ⟨⟨n, d⟩, hr⟩ : ∃ r, rOf s = r := ⟨_, rfl⟩
  rw [hr] at hv hsz e1 e2 h1 ⊢
  simp only at e1 e2
  have VA := Lib.hid (fun w => ref4Valid_is hv w hsz)
  have HP := Lib.hid (fun w => ref4Print_any (n, d) w hsz)
  generalize rPrint (n, d) = tp at *
  have q1 : (tp.toList == s.toList) = true := by rw [toList_beq]; simp [h1]
  have q0 : Blk ((w.alloc (.cells #[.string ⟨#[]⟩, .string ⟨#[]⟩] 23)).alloc (.cells #[.string s, .string ⟨#[49]⟩] 23)) (w.heap.size) #[.string ⟨#[]⟩, .string ⟨#[]⟩] 23 := (Blk.new w _ _).alloc _
  have q1 : Blk ((w.alloc (.cells #[.string ⟨#[]⟩, .string ⟨#[]⟩] 23)).alloc (.cells #[.string s, .string ⟨#[49]⟩] 23)) (w.heap.size + 1) #[.string s, .string ⟨#[49]⟩] 23 := Blk.newAt _ _ _ (by simp)
  have qL : Below w.heap.size w ((w.alloc (.cells #[.string ⟨#[]⟩, .string ⟨#[]⟩] 23)).alloc (.cells #[.string s, .string ⟨#[49]⟩] 23)) := ((Below.refl _ w).alloc (Nat.le_refl _) _).alloc (by simp <;> omega) _
  have R0 := Lib.hid q0
  have N0 := Lib.hid q1
  have L0 := Lib.hid qL
  clear qL q0 q1
  clear hv hsz hr hz his hmno hm1 hm2 hm47 h1
  have E1 := e1.symm
  have E2 := e2.symm
  clear e1 e2
  have HE1 := Lib.hid E1
  have HE2 := Lib.hid E2
  clear E1 E2
  have hmx : Tryz.prog.follows .mixedOrders = true := by kernel_rfl
  go_enter Tryz.func19, Tryz.ntmps19
  go_wp2
  try simp only [Nat.add_assoc, Nat.reduceAdd]
  generalize ((w.alloc (.cells #[.string ⟨#[]⟩, .string ⟨#[]⟩] 23)).alloc (.cells #[.string s, .string ⟨#[49]⟩] 23)) = w0 at *
  obtain ⟨r00, r01, r0f, r0g, r0l⟩ := blk2 R0.out
  obtain ⟨n00, n01, n0f, n0g, n0l⟩ := blk2 N0.out
  go_loop [5] (fun vi => ∃ k : Nat, k ≤ m ∧ vi = .int .i64 (k : Int)) (fun vi => m - (intOf vi).toNat)
  case atStart => exact ⟨0, Nat.zero_le _, rfl⟩
  case round =>
    obtain ⟨k, hk, rfl⟩ := hrel
    have hkn : k < s.size := by omega
    by_cases hlt : k < m
    · have hc := Hno.out k _ hlt (ba_at s k hkn)
      have t1 : ((s[k].toNat : Int) == 47) = false := byte_ne hc
      clear hc
      go_wp2
      go_round
      case rel => exact ⟨k + 1, by omega, by go_num⟩
      case measure => simp [intOf]; omega
    · obtain rfl : k = m := by omega
      have hc : s[k] = 47 := by have := ba_at s k hkn; rw [Hm47.out] at this; exact (Option.some.inj this).symm
      have t1 : ((s[k].toNat : Int) == 47) = true := by rw [hc]; rfl
      clear hc
      have b1 : (0 : Int) ≤ (k : Int) := by omega
      have b2 : (k : Int) ≤ (s.size : Int) := by omega
      have b3 : (k : Int) + 1 ≤ (s.size : Int) := by omega
      have E1 := HE1.out
      have E2 := HE2.out
      go_wp2
      go_region
      have N1 : Hid (Blk (((w0.setCell ⟨w.heap.size + 1, 0, none⟩ (.string n)).setCell ⟨w.heap.size + 1, 1, none⟩ (.string d)).drew) (w.heap.size + 1) #[.string n, .string d] 23) := Lib.hid (Blk.drewN ((Blk.set N0.out 0 (.string n)).set 1 (.string d)) 1)
      have R1 : Hid (Blk (((w0.setCell ⟨w.heap.size + 1, 0, none⟩ (.string n)).setCell ⟨w.heap.size + 1, 1, none⟩ (.string d)).drew) w.heap.size #[.string ⟨#[]⟩, .string ⟨#[]⟩] 23) := Lib.hid (Blk.drewN ((Blk.setOther R0.out (a := ⟨w.heap.size + 1, 0, none⟩) (by simp) _).setOther (a := ⟨w.heap.size + 1, 1, none⟩) (by simp) _) 1)
      have L1 : Hid (Below w.heap.size w (((w0.setCell ⟨w.heap.size + 1, 0, none⟩ (.string n)).setCell ⟨w.heap.size + 1, 1, none⟩ (.string d)).drew)) := Lib.hid (((L0.out.setCell (p := ⟨w.heap.size + 1, 0, none⟩) (by simp) _).setCell (p := ⟨w.heap.size + 1, 1, none⟩) (by simp) _).drew)
      generalize (((w0.setCell ⟨w.heap.size + 1, 0, none⟩ (.string n)).setCell ⟨w.heap.size + 1, 1, none⟩ (.string d)).drew) = w1 at *
      clear E1 E2
      obtain ⟨n10, n11, n1f, n1g, n1l⟩ := blk2 N1.out
      obtain ⟨r10, r11, r1f, r1g, r1l⟩ := blk2 R1.out
      go_wp2_with fail
      refine (VA.out _).mono ?_
      rintro e w2 ⟨rfl, hb2⟩
      have R2 := Lib.hid (Blk.below R1.out hb2 R1.out.lt)
      have N2 := Lib.hid (Blk.below N1.out hb2 N1.out.lt)
      have L2 := Lib.hid (L1.out.trans (hb2.mono L1.out.size))
      clear hb2
      obtain ⟨r20, r21, r2f, r2g, r2l⟩ := blk2 R2.out
      obtain ⟨n20, n21, n2f, n2g, n2l⟩ := blk2 N2.out
      go_wp2_with fail
      refine (HP.out _).mono ?_
      rintro e w3 ⟨rfl, hb3⟩
      have R3 := Lib.hid (Blk.below R2.out hb3 R2.out.lt)
      have N3 := Lib.hid (Blk.below N2.out hb3 N2.out.lt)
      have L3 := Lib.hid (L2.out.trans (hb3.mono L2.out.size))
      clear hb3
      obtain ⟨r30, r31, r3f, r3g, r3l⟩ := blk2 R3.out
      obtain ⟨n30, n31, n3f, n3g, n3l⟩ := blk2 N3.out
      go_wp2
      refine bodyPost_ret (v := vRE ((n, d), 0)) (by simp [results, Tryz.results19, go_sem, n30, n31, r30, r31, r3f, r3g, r3l]) rfl ⟨rfl, ?_⟩
      exact (L3.out.setCell (by simp) _).setCell (by simp) _
theorem ref4Parse_any (s : ByteArray) (w : World) (hs : s.size ≤ 100000) : Calls Tryz.prog 19 #[.string s] w (RatPost (rParse s) w) := by
  cases his : s.data.toList.contains 47 with
  | false =>
    cases hv : rV (rOf s) with
    | false => exact r4parse_inv_false s his hv w hs
    | true =>
      by_cases h1 : rPrint (rOf s) = s
      · exact r4parse_yes_false s his hv h1 w hs
      · exact r4parse_err_false s his hv h1 w hs
  | true =>
    cases hv : rV (rOf s) with
    | false => exact r4parse_inv_true s his hv w hs
    | true =>
      by_cases h1 : rPrint (rOf s) = s
      · exact r4parse_yes_true s his hv h1 w hs
      · exact r4parse_err_true s his hv h1 w hs
end Go.Proofs.YtgeoidnleagloaaGreatDoor
