/- Walks of the reference's maker of long fractions. -/
import Derived.Test.YtgeoidnleagloaaGreatDoorSF
set_option linter.unusedVariables false
set_option linter.unusedSimpArgs false
namespace Go.Proofs.YtgeoidnleagloaaGreatDoor
open Go.RowKit Yk

/-- All digits. -/
def Dg (t : ByteArray) : Prop := ∀ c ∈ t.data.toList, dig c = true
/-- What a text of digits without zeros ahead is. -/
def Good (t : ByteArray) : Prop := vS t = true ∧ 0 ≤ nS t ∧ nS t < 10 ^ 100
theorem good_of {t : ByteArray} (hd : Dg t) (h1 : 1 ≤ t.size) (h2 : t.size ≤ 100) (h3 : t.size = 1 ∨ t.data.toList.head? ≠ some 48) : Good t := by
  have hne : t.data.toList ≠ [] := by intro e; have := ba_len t; rw [e] at this; simp at this; omega
  have hh : t.data.toList.head? ≠ some 45 := by
    intro e
    have := hd 45 (List.mem_of_head? e)
    exact absurd this (by decide)
  have hb : body t.data.toList = t.data.toList := body_pos hh
  have hv : vld t.data.toList = true := by
    refine vld_mk (by rw [hb]; exact hne) (by rw [hb, ba_len]; omega) (by rw [hb]; exact hd) ?_
    rw [hb]
    rcases h3 with h3 | h3
    · by_cases h4 : t.data.toList.head? = some 48
      · left
        rw [← ba_len] at h3
        cases hl : t.data.toList with
        | nil => exact absurd hl hne
        | cons a r =>
          rw [hl] at h3 h4
          simp at h3 h4
          subst h3; subst h4; rfl
      · exact .inr h4
    · exact .inr h3
  have hn : nS t = (nat10 t.data.toList : Int) := by unfold nS toI; rw [if_neg hh, hb]
  have hlt := nat10_lt hd
  rw [ba_len] at hlt
  refine ⟨hv, by rw [hn]; omega, ?_⟩
  rw [hn]
  have : 10 ^ t.size ≤ 10 ^ 100 := Nat.pow_le_pow_right (by decide) h2
  exact_mod_cast Nat.lt_of_lt_of_le hlt this
theorem good_seven : Good ⟨#[55]⟩ := good_of (by unfold Dg; decide) (by decide) (by decide) (.inl (by decide))
theorem dg_push {t : ByteArray} (h : Dg t) {d : Int} (h0 : 0 ≤ d) (h1 : d < 10) : Dg (t ++ ⟨#[UInt8.ofNat (48 + d).toNat]⟩) := by
  intro c hc
  rw [show (t ++ ⟨#[UInt8.ofNat (48 + d).toNat]⟩ : ByteArray).data.toList = t.data.toList ++ [UInt8.ofNat (48 + d).toNat] by simp] at hc
  rcases List.mem_append.1 hc with h2 | h2
  · exact h c h2
  · rw [List.mem_singleton] at h2
    subst h2
    obtain ⟨n, rfl⟩ := Int.eq_ofNat_of_zero_le h0
    have e : (48 + (n : Int)).toNat = 48 + n := by omega
    rw [e]
    exact dig_ofNat (by omega)
theorem good_neg {t : ByteArray} (h : Good t) (h0 : nS t ≠ 0) : vS (⟨#[45]⟩ ++ t) = true ∧ (nS (⟨#[45]⟩ ++ t)).natAbs < 10 ^ 100 := by
  obtain ⟨h1, h2, h3⟩ := h
  have e : (⟨#[45]⟩ ++ t : ByteArray) = ofI (-nS t) := by
    apply ba_ext
    rw [ofI_list, itoa_neg (by omega), Int.natAbs_neg, ← itoa_pos h2, ← ofI_list, ofI_nS h1]
    simp
  rw [e, nS_ofI]
  refine ⟨vS_ofI ?_, by omega⟩
  have := nS_lt h1
  omega
/-- What the outer rounds keep. -/
def LongRel (x0 x1 x2 x3 : Int) (w : World) (vi : Value) (W : World) : Prop :=
  ∃ (k : Nat) (o0 o1 : ByteArray), k ≤ 2 ∧ vi = .int .i64 (k : Int) ∧ (0 < k → Good o0) ∧ (1 < k → Good o1) ∧
    (Blk W w.heap.size #[.int .i64 x0, .int .i64 x1, .int .i64 x2, .int .i64 x3] 24 ∧ Blk W (w.heap.size + 1) #[.string ⟨#[]⟩, .string ⟨#[]⟩] 23 ∧ Blk W (w.heap.size + 2) #[.string o0, .string o1] 64) ∧ Below w.heap.size w W
/-- What the rounds that make digits keep. -/
def DigR (n : Int) (W : World) (vs vc : Value) (W' : World) : Prop :=
  ∃ (t : ByteArray) (c : Int), vs = .string t ∧ vc = .int .i64 c ∧ Dg t ∧ (t.size : Int) ≤ n ∧ 0 ≤ c ∧ c < 2147483647 ∧ Below W.heap.size W W'
/-- What the rounds that leave out zeros keep. -/
def CutR (vs : Value) : Prop := ∃ (t : ByteArray), vs = .string t ∧ Dg t ∧ 1 ≤ t.size ∧ t.size ≤ 100

theorem dg_nil : Dg ⟨#[]⟩ := by intro c hc; simp at hc
theorem le_one (m : Int) (h : 0 ≤ m) : (((⟨#[]⟩ : ByteArray).size : Nat) : Int) ≤ 1 + m := by show ((0 : Nat) : Int) ≤ 1 + m; omega
theorem conv_digit (W : World) (d : Int) (h0 : 0 ≤ d) (h1 : d < 10) : (Go.convert 35 9 (.slice (some ⟨W.heap.size, 0, none⟩) 1 1)).run Tryz.prog (W.alloc (.cells #[.int .u8 (48 + d)] 5)) = .ok (.string ⟨#[UInt8.ofNat (48 + d).toNat]⟩) (W.alloc (.cells #[.int .u8 (48 + d)] 5)) := by
  have h := OwnL.lit1 (enc := encB) (e := 5) W (UInt8.ofNat (48 + d).toNat) (u := .int .u8 (48 + d)) (by
    obtain ⟨n, rfl⟩ := Int.eq_ofNat_of_zero_le h0
    have e : (48 + (n : Int)).toNat = 48 + n := by omega
    rw [e]
    have e2 : (UInt8.ofNat (48 + n)).toNat = 48 + n := by simp; omega
    unfold encB
    rw [e2]
    simp)
  exact runStr _ h.rd
set_option maxRecDepth 100000 in
set_option maxHeartbeats 4000000 in
theorem long_any (x0 x1 x2 x3 : Int) (a0 : -9223372036854775808 ≤ x0) (a1 : x0 ≤ 9223372036854775807) (b0 : -9223372036854775808 ≤ x1) (b1 : x1 ≤ 9223372036854775807)
    (c0 : -9223372036854775808 ≤ x2) (c1 : x2 ≤ 9223372036854775807) (d0 : -9223372036854775808 ≤ x3) (d1 : x3 ≤ 9223372036854775807) (w : World) :
    Calls Tryz.prog 12 #[.agg #[.int .i64 x0, .int .i64 x1, .int .i64 x2, .int .i64 x3]] w (FewPost 100 w) := by
  have P0 := Lib.hid (fun n h1 h2 w => pick4_any x0 n a0 a1 h1 h2 w)
  have P1 := Lib.hid (fun n h1 h2 w => pick4_any x1 n b0 b1 h1 h2 w)
  have P2 := Lib.hid (fun n h1 h2 w => pick4_any x2 n c0 c1 h1 h2 w)
  have P3 := Lib.hid (fun n h1 h2 w => pick4_any x3 n d0 d1 h1 h2 w)
  clear a0 a1 b0 b1 c0 c1 d0 d1
  have q0 : Blk (((w.alloc (.cells #[.int .i64 x0, .int .i64 x1, .int .i64 x2, .int .i64 x3] 24)).alloc (.cells #[.string ⟨#[]⟩, .string ⟨#[]⟩] 23)).alloc (.cells #[.string ⟨#[]⟩, .string ⟨#[]⟩] 64)) w.heap.size #[.int .i64 x0, .int .i64 x1, .int .i64 x2, .int .i64 x3] 24 := ((Blk.new w _ _).alloc _).alloc _
  have q1 : Blk (((w.alloc (.cells #[.int .i64 x0, .int .i64 x1, .int .i64 x2, .int .i64 x3] 24)).alloc (.cells #[.string ⟨#[]⟩, .string ⟨#[]⟩] 23)).alloc (.cells #[.string ⟨#[]⟩, .string ⟨#[]⟩] 64)) (w.heap.size + 1) #[.string ⟨#[]⟩, .string ⟨#[]⟩] 23 := (Blk.newAt _ _ _ (by simp)).alloc _
  have q2 : Blk (((w.alloc (.cells #[.int .i64 x0, .int .i64 x1, .int .i64 x2, .int .i64 x3] 24)).alloc (.cells #[.string ⟨#[]⟩, .string ⟨#[]⟩] 23)).alloc (.cells #[.string ⟨#[]⟩, .string ⟨#[]⟩] 64)) (w.heap.size + 2) #[.string ⟨#[]⟩, .string ⟨#[]⟩] 64 := Blk.newAt _ _ _ (by simp)
  have q3 : Below w.heap.size w (((w.alloc (.cells #[.int .i64 x0, .int .i64 x1, .int .i64 x2, .int .i64 x3] 24)).alloc (.cells #[.string ⟨#[]⟩, .string ⟨#[]⟩] 23)).alloc (.cells #[.string ⟨#[]⟩, .string ⟨#[]⟩] 64)) := (((Below.refl _ w).alloc (Nat.le_refl _) _).alloc (by simp) _).alloc (by simp; omega) _
  have X0 := Lib.hid q0
  have R0 := Lib.hid q1
  have O0 := Lib.hid q2
  have L0 := Lib.hid q3
  clear q0 q1 q2 q3
  have hmx : Tryz.prog.follows .mixedOrders = true := by kernel_rfl
  go_enter Tryz.func12, Tryz.ntmps12
  go_wp2
  simp only [Nat.add_assoc, Nat.reduceAdd]
  generalize (((w.alloc (.cells #[.int .i64 x0, .int .i64 x1, .int .i64 x2, .int .i64 x3] 24)).alloc (.cells #[.string ⟨#[]⟩, .string ⟨#[]⟩] 23)).alloc (.cells #[.string ⟨#[]⟩, .string ⟨#[]⟩] 64)) = w0 at *
  go_loopw [4] (fun vi wr => LongRel x0 x1 x2 x3 w vi wr) (fun vi _ => 2 - (intOf vi).toNat)
  case atStart => exact ⟨0, _, _, by omega, rfl, fun h => absurd h (by omega), fun h => absurd h (by omega), ⟨X0.out, R0.out, O0.out⟩, L0.out⟩
  case round =>
    clear X0 R0 O0 L0
    obtain ⟨k, o0, o1, hk, rfl, hg0, hg1, ⟨hX, hR, hO⟩, hL⟩ := hrel
    have HX := Lib.hid hX
    have HR := Lib.hid hR
    have HO := Lib.hid hO
    have HL := Lib.hid hL
    have HG0 := Lib.hid hg0
    have HG1 := Lib.hid hg1
    have y0 : wr.cell? ⟨w.heap.size, 0, none⟩ = some (.int .i64 x0) := hX.cell rfl
    have y1 : wr.cell? ⟨w.heap.size, 1, none⟩ = some (.int .i64 x1) := hX.cell rfl
    have y2 : wr.cell? ⟨w.heap.size, 2, none⟩ = some (.int .i64 x2) := hX.cell rfl
    have y3 : wr.cell? ⟨w.heap.size, 3, none⟩ = some (.int .i64 x3) := hX.cell rfl
    clear hX hR hO hL hg0 hg1
    have hk3 : k = 0 ∨ k = 1 ∨ k = 2 := by omega
    rcases hk3 with rfl | rfl | rfl
    · simp only [show ((0 : Nat) : Int) = 0 from rfl]
      go_wp2_with fail
      refine (P1.out 100 (by decide) (by decide) _).mono ?_
      rintro e wx ⟨m, rfl, i1, i2, rfl⟩
      go_wp2_with fail
      refine (P0.out 1000000007 (by decide) (by decide) _).mono ?_
      rintro e wx ⟨c, rfl, i3, i4, rfl⟩
      go_wp2
      obtain ⟨wo, rfl⟩ : ∃ wo : World, wo = wr := ⟨_, rfl⟩
      go_loopw [6, 7] (fun vs vc W => DigR (1 + m) wo vs vc W) (fun vs _ _ => match vs with | .string t => (1 + m).toNat - t.size | _ => 0)
      case atStart => exact ⟨_, c, rfl, rfl, dg_nil, le_one m i1, i3, by omega, Below.refl _ _⟩
      case round =>
        obtain ⟨t, c, rfl, rfl, hdg, hts, hc0, hc1, hB⟩ := hrel
        have Hdg := Lib.hid hdg
        clear hdg
        by_cases hlt : (t.size : Int) < 1 + m
        · have e0 : 0 ≤ c * 48271 + 11 := by omega
          have e1 := Int.emod_nonneg (c * 48271 + 11) (show (2147483647 : Int) ≠ 0 by decide)
          have e2 := Int.emod_lt_of_pos (c * 48271 + 11) (show (0 : Int) < 2147483647 by decide)
          go_wp2
          have g1 := Int.emod_nonneg ((c * 48271 + 11) % 2147483647 / 65536) (show (10 : Int) ≠ 0 by decide)
          have g2 := Int.emod_lt_of_pos ((c * 48271 + 11) % 2147483647 / 65536) (show (0 : Int) < 10 by decide)
          rw [conv_digit wr _ g1 g2]
          simp only [Result.andThen]
          rw [Oper.upon_value]
          have hnew := Lib.hid (dg_push Hdg.out g1 g2)
          generalize (c * 48271 + 11) % 2147483647 / 65536 % 10 = d at *
          generalize (c * 48271 + 11) % 2147483647 = c2 at *
          have hsz : (t ++ ⟨#[UInt8.ofNat (48 + d).toNat]⟩ : ByteArray).size = t.size + 1 := by rw [← ba_len, ← ba_len t]; simp
          have Hsz := Lib.hid hsz
          clear hsz
          go_wp2
          go_roundw
          case rel => exact ⟨_, c2, rfl, rfl, hnew.out, by rw [Hsz.out]; omega, e1, e2, (hB.alloc hB.size _)⟩
          case measure =>
            show (1 + m).toNat - (t ++ ⟨#[UInt8.ofNat (48 + d).toNat]⟩ : ByteArray).size < (1 + m).toNat - t.size
            rw [Hsz.out]; omega
        · have h1 : 1 ≤ t.size := by omega
          have h100' : t.size ≤ 100 := by omega
          go_wp2
          go_loop [6] (fun vs => CutR vs) (fun vs => match vs with | .string t => t.size | _ => 0)
          case atStart => exact ⟨t, rfl, Hdg.out, h1, h100'⟩
          case round =>
            clear Hdg h1 h100' hts hlt
            obtain ⟨t, rfl, hdg, h1, h100⟩ := hrel
            have Hdg2 := Lib.hid hdg
            have hB2 := hB
            clear hdg hB
            have h0 : 0 < t.size := by omega
            have Hhd : Hid (t.data.toList.head? = some t[0]) := Lib.hid (by rw [List.head?_eq_getElem?]; exact ba_at t 0 h0)
            by_cases hs1 : t.size = 1
            · obtain ⟨n1, hn1⟩ : ∃ n, t.size = n := ⟨_, rfl⟩
              have t1 : ¬ (1 : Int) < (t.size : Int) := by omega
              clear hn1
              have Hs1 := Lib.hid hs1
              clear hs1
              have HEND : t.size = 1 ∨ t.data.toList.head? ≠ some 48 := .inl Hs1.out
              have HEND' := Lib.hid HEND
              clear HEND
              have HO2 := Lib.hid (Blk.below HO.out hB2 HO.out.lt)
              have HX2 := Lib.hid (Blk.below HX.out hB2 HX.out.lt)
              have HR2 := Lib.hid (Blk.below HR.out hB2 HR.out.lt)
              have HL2 := Lib.hid (HL.out.trans (hB2.mono HL.out.size))
              obtain ⟨z1, z2, z3, z4, _⟩ := blk2 HO2.out
              go_wp2
              go_roundw
              case rel =>
                refine ⟨1, t, o1, by omega, by go_num, fun _ => good_of Hdg2.out (by omega) h100 HEND'.out, fun h => absurd h (by omega), ⟨?_, ?_, ?_⟩, ?_⟩
                · exact Blk.setOther HX2.out (by simp) _
                · exact Blk.setOther HR2.out (by simp) _
                · exact Blk.set HO2.out 0 (.string t)
                · exact HL2.out.setCell (by simp) _
              case measure => simp [intOf]

            · have t1 : (1 : Int) < (t.size : Int) := by omega
              clear hs1
              by_cases hz : t[0] = 48
              · have t2 : ((t[0].toNat : Int) == 48) = true := by rw [hz]; rfl
                have Hd3 : Hid (Dg (t.extract 1 t.size)) := Lib.hid (by intro c hc; rw [Lib.extract_to_end] at hc; exact Hdg2.out c (List.mem_of_mem_drop hc))
                have Hs3 : Hid ((t.extract 1 t.size).size = t.size - 1) := Lib.hid (by rw [← ba_len, Lib.extract_to_end, List.length_drop, ba_len])
                clear hz
                go_wp2
                go_round
                case rel => exact ⟨_, rfl, Hd3.out, by rw [Hs3.out]; omega, by rw [Hs3.out]; omega⟩
                case measure =>
                  show (t.extract 1 t.size).size < t.size
                  rw [Hs3.out]; omega
              · have t2 : ((t[0].toNat : Int) == 48) = false := by
                  rw [beq_eq_false_iff_ne]; intro h; apply hz; apply UInt8.toNat_inj.1
                  have : t[0].toNat = 48 := by omega
                  rw [this]; rfl
                have Hz := Lib.hid hz
                clear hz
                have HEND : t.size = 1 ∨ t.data.toList.head? ≠ some 48 := .inr (by rw [Hhd.out]; intro h; exact Hz.out (Option.some.inj h))
                have HEND' := Lib.hid HEND
                clear HEND
                have HO2 := Lib.hid (Blk.below HO.out hB2 HO.out.lt)
                have HX2 := Lib.hid (Blk.below HX.out hB2 HX.out.lt)
                have HR2 := Lib.hid (Blk.below HR.out hB2 HR.out.lt)
                have HL2 := Lib.hid (HL.out.trans (hB2.mono HL.out.size))
                obtain ⟨z1, z2, z3, z4, _⟩ := blk2 HO2.out
                go_wp2
                go_roundw
                case rel =>
                  refine ⟨1, t, o1, by omega, by go_num, fun _ => good_of Hdg2.out (by omega) h100 HEND'.out, fun h => absurd h (by omega), ⟨?_, ?_, ?_⟩, ?_⟩
                  · exact Blk.setOther HX2.out (by simp) _
                  · exact Blk.setOther HR2.out (by simp) _
                  · exact Blk.set HO2.out 0 (.string t)
                  · exact HL2.out.setCell (by simp) _
                case measure => simp [intOf]

    · simp only [show ((1 : Nat) : Int) = 1 from rfl]
      go_wp2_with fail
      refine (P3.out 100 (by decide) (by decide) _).mono ?_
      rintro e wx ⟨m, rfl, i1, i2, rfl⟩
      go_wp2_with fail
      refine (P2.out 1000000007 (by decide) (by decide) _).mono ?_
      rintro e wx ⟨c, rfl, i3, i4, rfl⟩
      go_wp2
      obtain ⟨wo, rfl⟩ : ∃ wo : World, wo = wr := ⟨_, rfl⟩
      go_loopw [6, 7] (fun vs vc W => DigR (1 + m) wo vs vc W) (fun vs _ _ => match vs with | .string t => (1 + m).toNat - t.size | _ => 0)
      case atStart => exact ⟨_, c, rfl, rfl, dg_nil, le_one m i1, i3, by omega, Below.refl _ _⟩
      case round =>
        obtain ⟨t, c, rfl, rfl, hdg, hts, hc0, hc1, hB⟩ := hrel
        have Hdg := Lib.hid hdg
        clear hdg
        by_cases hlt : (t.size : Int) < 1 + m
        · have e0 : 0 ≤ c * 48271 + 11 := by omega
          have e1 := Int.emod_nonneg (c * 48271 + 11) (show (2147483647 : Int) ≠ 0 by decide)
          have e2 := Int.emod_lt_of_pos (c * 48271 + 11) (show (0 : Int) < 2147483647 by decide)
          go_wp2
          have g1 := Int.emod_nonneg ((c * 48271 + 11) % 2147483647 / 65536) (show (10 : Int) ≠ 0 by decide)
          have g2 := Int.emod_lt_of_pos ((c * 48271 + 11) % 2147483647 / 65536) (show (0 : Int) < 10 by decide)
          rw [conv_digit wr _ g1 g2]
          simp only [Result.andThen]
          rw [Oper.upon_value]
          have hnew := Lib.hid (dg_push Hdg.out g1 g2)
          generalize (c * 48271 + 11) % 2147483647 / 65536 % 10 = d at *
          generalize (c * 48271 + 11) % 2147483647 = c2 at *
          have hsz : (t ++ ⟨#[UInt8.ofNat (48 + d).toNat]⟩ : ByteArray).size = t.size + 1 := by rw [← ba_len, ← ba_len t]; simp
          have Hsz := Lib.hid hsz
          clear hsz
          go_wp2
          go_roundw
          case rel => exact ⟨_, c2, rfl, rfl, hnew.out, by rw [Hsz.out]; omega, e1, e2, (hB.alloc hB.size _)⟩
          case measure =>
            show (1 + m).toNat - (t ++ ⟨#[UInt8.ofNat (48 + d).toNat]⟩ : ByteArray).size < (1 + m).toNat - t.size
            rw [Hsz.out]; omega
        · have h1 : 1 ≤ t.size := by omega
          have h100' : t.size ≤ 100 := by omega
          go_wp2
          go_loop [6] (fun vs => CutR vs) (fun vs => match vs with | .string t => t.size | _ => 0)
          case atStart => exact ⟨t, rfl, Hdg.out, h1, h100'⟩
          case round =>
            clear Hdg h1 h100' hts hlt
            obtain ⟨t, rfl, hdg, h1, h100⟩ := hrel
            have Hdg2 := Lib.hid hdg
            have hB2 := hB
            clear hdg hB
            have h0 : 0 < t.size := by omega
            have Hhd : Hid (t.data.toList.head? = some t[0]) := Lib.hid (by rw [List.head?_eq_getElem?]; exact ba_at t 0 h0)
            by_cases hs1 : t.size = 1
            · obtain ⟨n1, hn1⟩ : ∃ n, t.size = n := ⟨_, rfl⟩
              have t1 : ¬ (1 : Int) < (t.size : Int) := by omega
              clear hn1
              have Hs1 := Lib.hid hs1
              clear hs1
              have HEND : t.size = 1 ∨ t.data.toList.head? ≠ some 48 := .inl Hs1.out
              have HEND' := Lib.hid HEND
              clear HEND
              have HO2 := Lib.hid (Blk.below HO.out hB2 HO.out.lt)
              have HX2 := Lib.hid (Blk.below HX.out hB2 HX.out.lt)
              have HR2 := Lib.hid (Blk.below HR.out hB2 HR.out.lt)
              have HL2 := Lib.hid (HL.out.trans (hB2.mono HL.out.size))
              obtain ⟨z1, z2, z3, z4, _⟩ := blk2 HO2.out
              go_wp2
              go_roundw
              case rel =>
                refine ⟨2, o0, t, by omega, by go_num, fun _ => HG0.out (by omega), fun _ => good_of Hdg2.out (by omega) h100 HEND'.out, ⟨?_, ?_, ?_⟩, ?_⟩
                · exact Blk.setOther HX2.out (by simp) _
                · exact Blk.setOther HR2.out (by simp) _
                · exact Blk.set HO2.out 1 (.string t)
                · exact HL2.out.setCell (by simp) _
              case measure => simp [intOf]

            · have t1 : (1 : Int) < (t.size : Int) := by omega
              clear hs1
              by_cases hz : t[0] = 48
              · have t2 : ((t[0].toNat : Int) == 48) = true := by rw [hz]; rfl
                have Hd3 : Hid (Dg (t.extract 1 t.size)) := Lib.hid (by intro c hc; rw [Lib.extract_to_end] at hc; exact Hdg2.out c (List.mem_of_mem_drop hc))
                have Hs3 : Hid ((t.extract 1 t.size).size = t.size - 1) := Lib.hid (by rw [← ba_len, Lib.extract_to_end, List.length_drop, ba_len])
                clear hz
                go_wp2
                go_round
                case rel => exact ⟨_, rfl, Hd3.out, by rw [Hs3.out]; omega, by rw [Hs3.out]; omega⟩
                case measure =>
                  show (t.extract 1 t.size).size < t.size
                  rw [Hs3.out]; omega
              · have t2 : ((t[0].toNat : Int) == 48) = false := by
                  rw [beq_eq_false_iff_ne]; intro h; apply hz; apply UInt8.toNat_inj.1
                  have : t[0].toNat = 48 := by omega
                  rw [this]; rfl
                have Hz := Lib.hid hz
                clear hz
                have HEND : t.size = 1 ∨ t.data.toList.head? ≠ some 48 := .inr (by rw [Hhd.out]; intro h; exact Hz.out (Option.some.inj h))
                have HEND' := Lib.hid HEND
                clear HEND
                have HO2 := Lib.hid (Blk.below HO.out hB2 HO.out.lt)
                have HX2 := Lib.hid (Blk.below HX.out hB2 HX.out.lt)
                have HR2 := Lib.hid (Blk.below HR.out hB2 HR.out.lt)
                have HL2 := Lib.hid (HL.out.trans (hB2.mono HL.out.size))
                obtain ⟨z1, z2, z3, z4, _⟩ := blk2 HO2.out
                go_wp2
                go_roundw
                case rel =>
                  refine ⟨2, o0, t, by omega, by go_num, fun _ => HG0.out (by omega), fun _ => good_of Hdg2.out (by omega) h100 HEND'.out, ⟨?_, ?_, ?_⟩, ?_⟩
                  · exact Blk.setOther HX2.out (by simp) _
                  · exact Blk.setOther HR2.out (by simp) _
                  · exact Blk.set HO2.out 1 (.string t)
                  · exact HL2.out.setCell (by simp) _
                case measure => simp [intOf]

    · simp only [show ((2 : Nat) : Int) = 2 from rfl]
      have G0 := Lib.hid (HG0.out (by omega))
      have G1 := Lib.hid (HG1.out (by omega))
      clear HG0 HG1
      have M : Hid (∀ (a b : ByteArray) (W : World), vS a = true → (nS a).natAbs < 10 ^ 100 → Good b → nS b ≠ 0 → Calls Tryz.prog 39 #[.string a, .string b] W fun e w' => ∃ q : Rat, ∃ p1 p2 : ByteArray, (p1, p2) = rT q ∧ e = .returned (.tuple #[.agg #[.string p1, .string p2], .int .i64 0]) ∧ Few 100 q ∧ Below W.heap.size W w') := by
        refine Lib.hid ?_
        rintro a b W ha hal ⟨hb1, hb2, hb3⟩ hb0
        have h := ref4Make_any a b W (size_vS ha) (size_vS hb1)
        obtain ⟨e1, e2⟩ := few_mk (n := nS a) (d := nS b) (k := 100) hb0 hal (by omega) (by decide)
        have e3 : rMake a b = rMk (nS a) (nS b) := by rw [rMake_eq, if_pos (by simp [ha, hb1])]
        rw [e3, e1] at h
        refine h.mono ?_
        rintro e w' ⟨rfl, hb⟩
        exact ⟨_, _, _, rfl, rfl, e2, hb⟩
      have A0 : Hid (vS o0 = true ∧ (nS o0).natAbs < 10 ^ 100) := Lib.hid ⟨G0.out.1, by have := G0.out.2; omega⟩
      obtain ⟨z1, z2, z3, z4, _⟩ := blk2 HO.out
      obtain ⟨r1, r2, r3, r4, r5⟩ := blk2 HR.out
      by_cases h1 : nS o1 = 0
      · have t1 : (o1.toList == [48]) = true := by rw [eq48 G1.out.1]; simp [h1]
        have G1' := Lib.hid good_seven
        have N1 : Hid (nS (⟨#[55]⟩ : ByteArray) ≠ 0) := Lib.hid (by unfold nS toI; decide)
        clear h1
        go_wp2_with fail
        refine (P0.out 2 (by decide) (by decide) _).mono ?_
        rintro e wx ⟨j, rfl, i1, i2, hwx⟩
        subst hwx
        have HO1 : Hid (Blk (wr.setCell ⟨w.heap.size + 2, 1, none⟩ (.string ⟨#[55]⟩)) (w.heap.size + 2) #[.string o0, .string ⟨#[55]⟩] 64) := Lib.hid (Blk.set HO.out 1 (.string ⟨#[55]⟩))
        have HR1 : Hid (Blk (wr.setCell ⟨w.heap.size + 2, 1, none⟩ (.string ⟨#[55]⟩)) (w.heap.size + 1) #[.string ⟨#[]⟩, .string ⟨#[]⟩] 23) := Lib.hid (Blk.setOther HR.out (by simp) _)
        have HL1 : Hid (Below w.heap.size w (wr.setCell ⟨w.heap.size + 2, 1, none⟩ (.string ⟨#[55]⟩))) := Lib.hid (HL.out.setCell (by simp) _)
        generalize (wr.setCell ⟨w.heap.size + 2, 1, none⟩ (.string ⟨#[55]⟩)) = w1 at *
        obtain ⟨s1, s2, s3, s4, _⟩ := blk2 HO1.out
        obtain ⟨v1, v2, v3, v4, v5⟩ := blk2 HR1.out
        clear HO HR HL HX z1 z2 z3 z4 r1 r2 r3 r4 r5 y0 y1 y2 y3
        by_cases hj : j = 0
        · have t2 : (j == 0) = true := by simp [hj]
          clear hj
          by_cases hz : nS o0 = 0
          · have t3 : (o0.toList == [48]) = true := by rw [eq48 G0.out.1]; simp [hz]
            clear hz
            go_wp2_with fail
            refine (M.out _ _ _ A0.out.1 A0.out.2 G1'.out N1.out).mono ?_
            rintro e w5 ⟨q, p1, p2, hq, rfl, hf, hb5⟩
            have HR5 := Lib.hid (Blk.below (w := w1) (HR1.out) hb5 (HR1.out.lt))
            have HL5 := Lib.hid (HL1.out.trans (hb5.mono HL1.out.size))
            have Hq := Lib.hid hq
            have Hf := Lib.hid hf
            clear hb5 hq hf
            obtain ⟨u1, u2, u3, u4, u5⟩ := blk2 HR5.out
            go_wp2
            refine bodyPost_ret (v := vR (p1, p2)) (by simp [results, Tryz.results12, go_sem, u1, u2, u3, u4, u5]) rfl ⟨q, by rw [← Hq.out], Hf.out, ?_⟩
            exact ((HL5.out.setCell (by simp) _).setCell (by simp) _).alloc (by have := HL5.out.size; simp [World.setCell]; omega) _
          · have t3 : (o0.toList == [48]) = false := by rw [eq48 G0.out.1]; simp [hz]
            have NZ := Lib.hid hz
            have hsz := size_vS G0.out.1
            have hsz2 : o0.size ≤ 1000 := by have := vS_size G0.out.1; omega
            clear hz hsz
            go_wp2_with fail
            refine (M.out _ _ _ (good_neg G0.out NZ.out).1 (good_neg G0.out NZ.out).2 G1'.out N1.out).mono ?_
            rintro e w5 ⟨q, p1, p2, hq, rfl, hf, hb5⟩
            have HR5 := Lib.hid (Blk.below (w := (w1.setCell ⟨w.heap.size + 2, 0, none⟩ (.string (⟨#[45]⟩ ++ o0)))) (Blk.setOther HR1.out (a := ⟨w.heap.size + 2, 0, none⟩) (by simp) _) hb5 (Blk.lt (Blk.setOther HR1.out (a := ⟨w.heap.size + 2, 0, none⟩) (by simp) (.string (⟨#[45]⟩ ++ o0)))))
            have HL5 := Lib.hid ((HL1.out.setCell (p := ⟨w.heap.size + 2, 0, none⟩) (by simp) _).trans (hb5.mono (HL1.out.setCell (p := ⟨w.heap.size + 2, 0, none⟩) (by simp) (.string (⟨#[45]⟩ ++ o0))).size))
            have Hq := Lib.hid hq
            have Hf := Lib.hid hf
            clear hb5 hq hf
            obtain ⟨u1, u2, u3, u4, u5⟩ := blk2 HR5.out
            go_wp2
            refine bodyPost_ret (v := vR (p1, p2)) (by simp [results, Tryz.results12, go_sem, u1, u2, u3, u4, u5]) rfl ⟨q, by rw [← Hq.out], Hf.out, ?_⟩
            exact ((HL5.out.setCell (by simp) _).setCell (by simp) _).alloc (by have := HL5.out.size; simp [World.setCell]; omega) _
        · have t2 : (j == 0) = false := by simp [hj]
          clear hj
          go_wp2_with fail
          refine (M.out _ _ _ A0.out.1 A0.out.2 G1'.out N1.out).mono ?_
          rintro e w5 ⟨q, p1, p2, hq, rfl, hf, hb5⟩
          have HR5 := Lib.hid (Blk.below (w := w1) (HR1.out) hb5 (HR1.out.lt))
          have HL5 := Lib.hid (HL1.out.trans (hb5.mono HL1.out.size))
          have Hq := Lib.hid hq
          have Hf := Lib.hid hf
          clear hb5 hq hf
          obtain ⟨u1, u2, u3, u4, u5⟩ := blk2 HR5.out
          go_wp2
          refine bodyPost_ret (v := vR (p1, p2)) (by simp [results, Tryz.results12, go_sem, u1, u2, u3, u4, u5]) rfl ⟨q, by rw [← Hq.out], Hf.out, ?_⟩
          exact ((HL5.out.setCell (by simp) _).setCell (by simp) _).alloc (by have := HL5.out.size; simp [World.setCell]; omega) _
      · have t1 : (o1.toList == [48]) = false := by rw [eq48 G1.out.1]; simp [h1]
        have G1' := G1
        have N1 : Hid (nS o1 ≠ 0) := Lib.hid h1
        clear h1
        go_wp2_with fail
        refine (P0.out 2 (by decide) (by decide) _).mono ?_
        rintro e wx ⟨j, rfl, i1, i2, hwx⟩
        subst hwx
        have HO1 : Hid (Blk wr (w.heap.size + 2) #[.string o0, .string o1] 64) := Lib.hid (HO.out)
        have HR1 : Hid (Blk wr (w.heap.size + 1) #[.string ⟨#[]⟩, .string ⟨#[]⟩] 23) := Lib.hid (HR.out)
        have HL1 : Hid (Below w.heap.size w wr) := Lib.hid (HL.out)
        obtain ⟨w1, rfl⟩ : ∃ w1 : World, w1 = wr := ⟨_, rfl⟩
        obtain ⟨s1, s2, s3, s4, _⟩ := blk2 HO1.out
        obtain ⟨v1, v2, v3, v4, v5⟩ := blk2 HR1.out
        clear HO HR HL HX z1 z2 z3 z4 r1 r2 r3 r4 r5 y0 y1 y2 y3
        by_cases hj : j = 0
        · have t2 : (j == 0) = true := by simp [hj]
          clear hj
          by_cases hz : nS o0 = 0
          · have t3 : (o0.toList == [48]) = true := by rw [eq48 G0.out.1]; simp [hz]
            clear hz
            go_wp2_with fail
            refine (M.out _ _ _ A0.out.1 A0.out.2 G1'.out N1.out).mono ?_
            rintro e w5 ⟨q, p1, p2, hq, rfl, hf, hb5⟩
            have HR5 := Lib.hid (Blk.below (w := w1) (HR1.out) hb5 (HR1.out.lt))
            have HL5 := Lib.hid (HL1.out.trans (hb5.mono HL1.out.size))
            have Hq := Lib.hid hq
            have Hf := Lib.hid hf
            clear hb5 hq hf
            obtain ⟨u1, u2, u3, u4, u5⟩ := blk2 HR5.out
            go_wp2
            refine bodyPost_ret (v := vR (p1, p2)) (by simp [results, Tryz.results12, go_sem, u1, u2, u3, u4, u5]) rfl ⟨q, by rw [← Hq.out], Hf.out, ?_⟩
            exact ((HL5.out.setCell (by simp) _).setCell (by simp) _).alloc (by have := HL5.out.size; simp [World.setCell]; omega) _
          · have t3 : (o0.toList == [48]) = false := by rw [eq48 G0.out.1]; simp [hz]
            have NZ := Lib.hid hz
            have hsz := size_vS G0.out.1
            have hsz2 : o0.size ≤ 1000 := by have := vS_size G0.out.1; omega
            clear hz hsz
            go_wp2_with fail
            refine (M.out _ _ _ (good_neg G0.out NZ.out).1 (good_neg G0.out NZ.out).2 G1'.out N1.out).mono ?_
            rintro e w5 ⟨q, p1, p2, hq, rfl, hf, hb5⟩
            have HR5 := Lib.hid (Blk.below (w := (w1.setCell ⟨w.heap.size + 2, 0, none⟩ (.string (⟨#[45]⟩ ++ o0)))) (Blk.setOther HR1.out (a := ⟨w.heap.size + 2, 0, none⟩) (by simp) _) hb5 (Blk.lt (Blk.setOther HR1.out (a := ⟨w.heap.size + 2, 0, none⟩) (by simp) (.string (⟨#[45]⟩ ++ o0)))))
            have HL5 := Lib.hid ((HL1.out.setCell (p := ⟨w.heap.size + 2, 0, none⟩) (by simp) _).trans (hb5.mono (HL1.out.setCell (p := ⟨w.heap.size + 2, 0, none⟩) (by simp) (.string (⟨#[45]⟩ ++ o0))).size))
            have Hq := Lib.hid hq
            have Hf := Lib.hid hf
            clear hb5 hq hf
            obtain ⟨u1, u2, u3, u4, u5⟩ := blk2 HR5.out
            go_wp2
            refine bodyPost_ret (v := vR (p1, p2)) (by simp [results, Tryz.results12, go_sem, u1, u2, u3, u4, u5]) rfl ⟨q, by rw [← Hq.out], Hf.out, ?_⟩
            exact ((HL5.out.setCell (by simp) _).setCell (by simp) _).alloc (by have := HL5.out.size; simp [World.setCell]; omega) _
        · have t2 : (j == 0) = false := by simp [hj]
          clear hj
          go_wp2_with fail
          refine (M.out _ _ _ A0.out.1 A0.out.2 G1'.out N1.out).mono ?_
          rintro e w5 ⟨q, p1, p2, hq, rfl, hf, hb5⟩
          have HR5 := Lib.hid (Blk.below (w := w1) (HR1.out) hb5 (HR1.out.lt))
          have HL5 := Lib.hid (HL1.out.trans (hb5.mono HL1.out.size))
          have Hq := Lib.hid hq
          have Hf := Lib.hid hf
          clear hb5 hq hf
          obtain ⟨u1, u2, u3, u4, u5⟩ := blk2 HR5.out
          go_wp2
          refine bodyPost_ret (v := vR (p1, p2)) (by simp [results, Tryz.results12, go_sem, u1, u2, u3, u4, u5]) rfl ⟨q, by rw [← Hq.out], Hf.out, ?_⟩
          exact ((HL5.out.setCell (by simp) _).setCell (by simp) _).alloc (by have := HL5.out.size; simp [World.setCell]; omega) _
end Go.Proofs.YtgeoidnleagloaaGreatDoor
