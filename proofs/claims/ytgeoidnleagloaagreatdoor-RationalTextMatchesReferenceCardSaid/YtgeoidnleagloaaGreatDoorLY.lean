/- The law RationalTextMatchesReference: its run yields true. -/
import Derived.Test.YtgeoidnleagloaaGreatDoorLYa
set_option linter.unusedVariables false
set_option linter.unusedSimpArgs false
namespace Go.Proofs.YtgeoidnleagloaaGreatDoor
open Go Go.RowKit Go.Sy Yk

/-- What is asked of a fraction's text. -/
def partP (r : RS) (no next : Prop) : Prop :=
  needB (sz r.1 && sz r.2) (needB (decide ((rPrint r).size ≤ 100000)) (needB (sz r.1 && sz r.2)
  (needB (impB (!!seq (rPrint r) (rPrint r)) (sz r.1 && sz r.2))
  (needB (impB (!(!seq (rPrint r) (rPrint r) || (rV r) != ((rParse (rPrint r)).snd == 0 && (seq (rParse (rPrint r)).fst.fst r.1 && (seq (rParse (rPrint r)).fst.snd r.2 && true))))) (sz r.1 && sz r.2))
  (branch (!seq (rPrint r) (rPrint r) || (rV r) != ((rParse (rPrint r)).snd == 0 && (seq (rParse (rPrint r)).fst.fst r.1 && (seq (rParse (rPrint r)).fst.snd r.2 && true))) || seq (rPrint r) { data := #[] } == rV r) no next)))))
/-- What is asked of a text. -/
def partQ (t : ByteArray) (no next : Prop) : Prop :=
  needB (decide (t.size ≤ 100000)) (needB (decide (t.size ≤ 100000))
  (needB (impB (!(!(seq (rParse t).fst.fst (rParse t).fst.fst && (seq (rParse t).fst.snd (rParse t).fst.snd && true)) || (rParse t).snd != (rParse t).snd) && (rParse t).snd == 0) (sz (rParse t).fst.fst && sz (rParse t).fst.snd))
  (branch (!(seq (rParse t).fst.fst (rParse t).fst.fst && (seq (rParse t).fst.snd (rParse t).fst.snd && true)) || (rParse t).snd != (rParse t).snd || (rParse t).snd == 0 && !seq (rPrint (rParse t).fst) t) no next)))
/-- A text with one byte changed. -/
def changed (s : ByteArray) (k c : Int) : ByteArray := s.extract 0 k.toNat ++ { data := #[UInt8.ofNat c.toNat] } ++ s.extract (k + 1).toNat s.size

set_option maxRecDepth 100000 in
theorem text_vc (xa xb : ByteArray) (l0 l1 l2 l3 at' c : Int) (raw : ByteArray) (K : SV → Prop) : runT (fun _ _ => none) 4 3 [.agg [.val (.string xa), .val (.string xb)], sv4 l0 l1 l2 l3, svI at', .val (.int .u8 c), .val (.string raw)] K =
    needB (i64 l0 && i64 l1 && i64 l2 && i64 l3)
    (partP (cutN 210 xa, cutN 210 xb) (K (.val (.bool false)))
    (partP (longF l0 l1 l2 l3) (K (.val (.bool false)))
    (needB (sz (longF l0 l1 l2 l3).fst && sz (longF l0 l1 l2 l3).snd)
    (branch (seq (rPrint (longF l0 l1 l2 l3)) { data := #[] }) (K (.val (.bool false)))
    (needB (i64 at' && decide (0 < ((rPrint (longF l0 l1 l2 l3)).size : Int)))
    (needB (decide (0 ≤ if 420 < (raw.size : Int) then 420 else (raw.size : Int)) && decide ((if 420 < (raw.size : Int) then 420 else (raw.size : Int)) ≤ (raw.size : Int)))
    (needB (decide (0 ≤ pickI at' ((rPrint (longF l0 l1 l2 l3)).size : Int)) && decide (pickI at' ((rPrint (longF l0 l1 l2 l3)).size : Int) ≤ ((rPrint (longF l0 l1 l2 l3)).size : Int)))
    (needB (decide (((rPrint (longF l0 l1 l2 l3)).extract 0 (pickI at' ((rPrint (longF l0 l1 l2 l3)).size : Int)).toNat).size + ({ data := #[UInt8.ofNat c.toNat] } : ByteArray).size ≤ 9223372036854775807))
    (needB (inR .i64 (pickI at' ((rPrint (longF l0 l1 l2 l3)).size : Int) + 1))
    (needB (decide (0 ≤ pickI at' ((rPrint (longF l0 l1 l2 l3)).size : Int) + 1) && decide (pickI at' ((rPrint (longF l0 l1 l2 l3)).size : Int) + 1 ≤ ((rPrint (longF l0 l1 l2 l3)).size : Int)))
    (needB (decide (((rPrint (longF l0 l1 l2 l3)).extract 0 (pickI at' ((rPrint (longF l0 l1 l2 l3)).size : Int)).toNat ++ { data := #[UInt8.ofNat c.toNat] }).size + ((rPrint (longF l0 l1 l2 l3)).extract (pickI at' ((rPrint (longF l0 l1 l2 l3)).size : Int) + 1).toNat (rPrint (longF l0 l1 l2 l3)).size).size ≤ 9223372036854775807))
    (partQ (cutN 420 raw) (K (.val (.bool false)))
    (partQ (changed (rPrint (longF l0 l1 l2 l3)) (pickI at' ((rPrint (longF l0 l1 l2 l3)).size : Int)) c) (K (.val (.bool false)))
    (K (.val (.bool true)))))))))))))))) := by kernel_rfl

theorem print_size (r : RS) : (rPrint r).size ≤ 403 := by
  cases hv : rV r with
  | false => rw [rPrint_no hv]; decide
  | true =>
    have p := rV_parts hv
    have s1 := vS_size p.1
    have s2 := vS_size p.2.1
    by_cases h1 : r.2 = ⟨#[49]⟩
    · rw [rPrint_one hv h1]; omega
    · rw [rPrint_two hv h1]
      have : (⟨(r.1.data.toList ++ [47] ++ r.2.data.toList).toArray⟩ : ByteArray).size = r.1.size + 1 + r.2.size := by
        rw [← ba_len]; simp; omega
      omega
theorem seq_self (s : ByteArray) : seq s s = true := seq_iff.2 rfl
theorem partP_ok {r : RS} (h1 : sz r.1 = true) (h2 : sz r.2 = true) {no next : Prop} (h : next) : partP r no next := by
  have hs := print_size r
  have e1 : decide ((rPrint r).size ≤ 100000) = true := by simp; omega
  unfold partP
  simp only [h1, h2, e1, seq_self, Bool.and_self, Bool.not_true, Bool.not_false, Bool.false_or, needB_true, impB_true]
  refine branch_iff.2 ⟨fun hc => ?_, fun _ => h⟩
  exfalso
  cases hv : rV r with
  | true =>
    have hp := rParse_print hv
    have hne := rPrint_ne hv
    have e2 : seq (rPrint r) { data := #[] } = false := by
      cases hq : seq (rPrint r) { data := #[] } with
      | false => rfl
      | true => exact absurd (seq_iff.1 hq) hne
    rw [hv, hp, e2] at hc
    simp [seq_self] at hc
  | false =>
    rw [hv, rPrint_no hv, rParse_empty] at hc
    have e3 : seq ByteArray.empty { data := #[] } = true := seq_iff.2 rfl
    rw [e3] at hc
    simp at hc
theorem rOf_size2 (s : ByteArray) : (rOf s).1.size ≤ s.size + 1 ∧ (rOf s).2.size ≤ s.size + 1 := by
  unfold rOf rSplit
  have hl := ba_len s
  split
  · constructor
    · rw [← ba_len]
      simp only [List.toList_toArray]
      have := (List.takeWhile_sublist (· != 47) (l := s.data.toList)).length_le
      omega
    · rw [← ba_len]
      simp only [List.toList_toArray, List.length_tail]
      have := (List.dropWhile_sublist (· != 47) (l := s.data.toList)).length_le
      omega
  · constructor
    · rw [← ba_len]; simp only [List.toList_toArray]; omega
    · rw [← ba_len]; simp
theorem partQ_ok {t : ByteArray} (ht : t.size ≤ 100000) {no next : Prop} (h : next) : partQ t no next := by
  have e1 : decide (t.size ≤ 100000) = true := by simpa using ht
  have hsz : sz (rParse t).1.1 = true ∧ sz (rParse t).1.2 = true := by
    have := rOf_size2 t
    unfold rParse
    split
    · constructor <;> (rw [sz_iff]; unfold maxLen; simp only []; omega)
    · exact ⟨sz_empty, sz_empty⟩
  unfold partQ
  simp only [e1, seq_self, hsz.1, hsz.2, Bool.and_self, Bool.not_true, Bool.false_or, bne_self_eq_false, needB_true, impB_true]
  refine branch_iff.2 ⟨fun hc => ?_, fun _ => h⟩
  exfalso
  simp only [Bool.and_eq_true, beq_iff_eq, Bool.not_eq_true'] at hc
  obtain ⟨h1, _, h2⟩ := rParse_ok hc.1
  rw [h1] at hc
  simp only [] at hc
  rw [h2, seq_self] at hc
  cases hc.2

theorem lby_dg {c : Int} (h0 : 0 ≤ c) (s : ByteArray) (h : Dg s) : Dg (s ++ lby c) := by
  unfold lby
  have h1 : 0 ≤ c.tdiv 65536 := Int.tdiv_nonneg h0 (by decide)
  refine dg_push h (Int.tmod_nonneg _ h1) (Int.tmod_lt_of_pos _ (by decide))
theorem grow_good : ∀ (k : Nat) (c : Int) (s : ByteArray), 0 ≤ c → c < 2147483647 → Dg s → Dg (growF k c s) ∧ (growF k c s).size = s.size + k
  | 0, c, s, _, _, h => ⟨h, rfl⟩
  | k + 1, c, s, h0, h1, h => by
    have hc := lcg_range h0
    obtain ⟨a, b⟩ := grow_good k (lcg c) (s ++ lby (lcg c)) hc.1 hc.2 (lby_dg hc.1 s h)
    refine ⟨a, ?_⟩
    show (growF k (lcg c) (s ++ lby (lcg c))).size = _
    rw [b, lby_size]; omega
theorem trim_good : ∀ (k : Nat) (s : ByteArray), s.size ≤ k → Dg s → 1 ≤ s.size → Dg (trimF k s) ∧ 1 ≤ (trimF k s).size ∧ (trimF k s).size ≤ s.size ∧ ((trimF k s).size = 1 ∨ (trimF k s).data.toList.head? ≠ some 48)
  | 0, s, h, _, h1 => by omega
  | k + 1, s, h, hd, h1 => by
    unfold trimF
    split
    · rename_i hc
      simp only [Bool.and_eq_true, decide_eq_true_eq] at hc
      have hsz : (s.extract 1 s.size).size = s.size - 1 := ext_size s
      obtain ⟨a, b, c, d⟩ := trim_good k (s.extract 1 s.size) (by omega) (by
        intro x hx
        rw [ba_tail] at hx
        exact hd x (List.mem_of_mem_tail hx)) (by omega)
      exact ⟨a, b, by omega, d⟩
    · rename_i hc
      refine ⟨hd, h1, Nat.le_refl _, ?_⟩
      by_cases hs : s.size = 1
      · exact .inl hs
      · right
        intro he
        apply hc
        simp only [Bool.and_eq_true, decide_eq_true_eq]
        refine ⟨by omega, ?_⟩
        unfold byteI
        rw [← List.head?_eq_getElem?, he]
        rfl
theorem drawn_good {n c0 : Int} (h0 : 0 ≤ c0) (h1 : c0 < 2147483647) (h2 : 1 ≤ n) (h3 : n ≤ 100) : Good (drawn n c0) := by
  obtain ⟨a, b⟩ := grow_good n.toNat c0 ByteArray.empty h0 h1 (by intro c hc; simp at hc)
  have hb : (growF n.toNat c0 ByteArray.empty).size = n.toNat := by rw [b]; simp
  obtain ⟨d1, d2, d3, d4⟩ := trim_good _ _ (Nat.le_refl _) a (by omega)
  exact good_of d1 d2 (by unfold drawn at *; omega) d4
theorem good_ne {t : ByteArray} (h : Good t) (hn : seq t { data := #[48] } = false) : nS t ≠ 0 := by
  intro e
  have := ofI_nS h.1
  rw [e, ofI_zero] at this
  rw [seq_iff.2 this.symm] at hn
  cases hn
theorem rV_make {s t : ByteArray} (hs : vS s = true) (ht : vS t = true) (h0 : nS t ≠ 0) : rV (rMake s t).1 = true := by
  rw [rMake_eq, if_pos (by simp [hs, ht])]
  rcases rMk_cases (nS s) (nS t) with ⟨_, _, _, h⟩ | ⟨h, _⟩
  · exact h.valid
  · exact absurd ⟨small_iff.2 (nS_lt hs), small_iff.2 (nS_lt ht), h0⟩ h
theorem longF_valid (x0 x1 x2 x3 : Int) : rV (longF x0 x1 x2 x3) = true := by
  have p1 := pick_range x1 (n := 100) (by decide)
  have p3 := pick_range x3 (n := 100) (by decide)
  have p0 := pick_range x0 (n := 1000000007) (by decide)
  have p2 := pick_range x2 (n := 1000000007) (by decide)
  have g1 := drawn_good p0.1 (by omega) (n := 1 + pickI x1 100) (by omega) (by omega)
  have g2 := drawn_good p2.1 (by omega) (n := 1 + pickI x3 100) (by omega) (by omega)
  unfold longF
  generalize drawn (1 + pickI x1 100) (pickI x0 1000000007) = s at g1 ⊢
  generalize drawn (1 + pickI x3 100) (pickI x2 1000000007) = t at g2 ⊢
  have ht : vS (bif seq t { data := #[48] } then ({ data := #[55] } : ByteArray) else t) = true ∧ nS (bif seq t { data := #[48] } then ({ data := #[55] } : ByteArray) else t) ≠ 0 := by
    cases hq : seq t { data := #[48] } with
    | true => exact ⟨good_seven.1, (by decide : nS { data := #[55] } ≠ 0)⟩
    | false => exact ⟨g2.1, good_ne g2 hq⟩
  refine rV_make ?_ ht.1 ht.2
  cases hq : (pickI x0 2 == 0 && !seq s { data := #[48] }) with
  | false => exact g1.1
  | true =>
    simp only [Bool.and_eq_true, Bool.not_eq_true'] at hq
    exact (good_neg g1 (good_ne g1 hq.2)).1

theorem cut_size {n : Int} (h0 : 0 ≤ n) (h1 : n ≤ 1000) (a : ByteArray) : (cutN n a).size ≤ 1000 := by
  unfold cutN
  rw [ByteArray.size_extract]
  split <;> omega
/-- The plain part: what the run comes to holds. -/
theorem text_plain (x l : RS) (at' c : Int) (raw : ByteArray) {no yes : Prop} (hx1 : sz x.1 = true) (hx2 : sz x.2 = true) (hl1 : sz l.1 = true) (hl2 : sz l.2 = true) (hlv : rV l = true) (ha : i64 at' = true) (h : yes) :
    partP x no (partP l no (needB (sz l.1 && sz l.2) (branch (seq (rPrint l) { data := #[] }) no
    (needB (i64 at' && decide (0 < ((rPrint l).size : Int)))
    (needB (decide (0 ≤ if 420 < (raw.size : Int) then 420 else (raw.size : Int)) && decide ((if 420 < (raw.size : Int) then 420 else (raw.size : Int)) ≤ (raw.size : Int)))
    (needB (decide (0 ≤ pickI at' ((rPrint l).size : Int)) && decide (pickI at' ((rPrint l).size : Int) ≤ ((rPrint l).size : Int)))
    (needB (decide (((rPrint l).extract 0 (pickI at' ((rPrint l).size : Int)).toNat).size + ({ data := #[UInt8.ofNat c.toNat] } : ByteArray).size ≤ 9223372036854775807))
    (needB (inR .i64 (pickI at' ((rPrint l).size : Int) + 1))
    (needB (decide (0 ≤ pickI at' ((rPrint l).size : Int) + 1) && decide (pickI at' ((rPrint l).size : Int) + 1 ≤ ((rPrint l).size : Int)))
    (needB (decide (((rPrint l).extract 0 (pickI at' ((rPrint l).size : Int)).toNat ++ { data := #[UInt8.ofNat c.toNat] }).size + ((rPrint l).extract (pickI at' ((rPrint l).size : Int) + 1).toNat (rPrint l).size).size ≤ 9223372036854775807))
    (partQ (cutN 420 raw) no (partQ (changed (rPrint l) (pickI at' ((rPrint l).size : Int)) c) no yes)))))))))))) := by
  refine partP_ok hx1 hx2 (partP_ok hl1 hl2 ?_)
  have hps := print_size l
  have hpn := rPrint_ne hlv
  generalize rPrint l = s at hps hpn ⊢
  have hs0 : 0 < s.size := by
    rcases Nat.eq_zero_or_pos s.size with h | h
    · exfalso
      apply hpn
      apply ba_ext
      have := ba_len s
      rw [h] at this
      rw [List.eq_nil_of_length_eq_zero this]; rfl
    · exact h
  have pk := pick_range at' (n := (s.size : Int)) (by omega)
  generalize pickI at' (s.size : Int) = k at pk ⊢
  have c1 : ({ data := #[UInt8.ofNat c.toNat] } : ByteArray).size = 1 := rfl
  have x1 : (s.extract 0 k.toNat).size ≤ s.size := by rw [ByteArray.size_extract]; omega
  have x2 : (s.extract (k + 1).toNat s.size).size ≤ s.size := by rw [ByteArray.size_extract]; omega
  have n1 : decide (0 < (s.size : Int)) = true := by simp; omega
  have n2 : (decide (0 ≤ k) && decide (k ≤ (s.size : Int))) = true := by simp; omega
  have n3 : decide ((s.extract 0 k.toNat).size + ({ data := #[UInt8.ofNat c.toNat] } : ByteArray).size ≤ 9223372036854775807) = true := by rw [c1]; simp only [decide_eq_true_eq]; omega
  have n4 : inR .i64 (k + 1) = true := inR_small (by omega) (by omega)
  have n5 : (decide (0 ≤ k + 1) && decide (k + 1 ≤ (s.size : Int))) = true := by simp; omega
  have n6 : decide ((s.extract 0 k.toNat ++ { data := #[UInt8.ofNat c.toNat] }).size + (s.extract (k + 1).toNat s.size).size ≤ 9223372036854775807) = true := by rw [ByteArray.size_append, c1]; simp only [decide_eq_true_eq]; omega
  rw [hl1, hl2, Bool.and_self, needB_true]
  refine branch_iff.2 ⟨fun hq => absurd (seq_iff.1 hq) hpn, fun _ => ?_⟩
  have nc := cutN_needs 420 (by decide) raw
  simp only [ha, n1, nc, n2, n3, n4, n5, n6, Bool.and_self, needB_true]
  have z1 : (cutN 420 raw).size ≤ 100000 := Nat.le_trans (cut_size (by decide) (by decide) raw) (by decide)
  refine partQ_ok z1 ?_
  refine partQ_ok ?_ h
  unfold changed
  rw [ByteArray.size_append, ByteArray.size_append, c1]
  omega
set_option maxRecDepth 100000 in
theorem text_runs (xa xb : ByteArray) (l0 l1 l2 l3 at' c : Int) (raw : ByteArray) (hl : (i64 l0 && i64 l1 && i64 l2 && i64 l3) = true) (ha : i64 at' = true) :
    BoxT (runT (fun _ _ => none) 4 3 [.agg [.val (.string xa), .val (.string xb)], sv4 l0 l1 l2 l3, svI at', .val (.int .u8 c), .val (.string raw)] Yes) := by
  constructor
  rw [text_vc, hl, needB_true]
  have csz : ∀ a, sz (cutN 210 a) = true := fun a => sz_iff.2 (Nat.le_trans (cut_size (by decide) (by decide) a) (by decide))
  have hlz := longF_sz l0 l1 l2 l3
  exact text_plain (cutN 210 xa, cutN 210 xb) (longF l0 l1 l2 l3) at' c raw (csz _) (csz _) hlz.1 hlz.2 (longF_valid l0 l1 l2 l3) ha (yes_iff.2 rfl)
set_option maxRecDepth 100000 in
theorem textlaw_any (xa xb : ByteArray) (l0 l1 l2 l3 at' c : Int) (raw : ByteArray) (l0l : -9223372036854775808 ≤ l0) (l0h : l0 ≤ 9223372036854775807) (l1l : -9223372036854775808 ≤ l1) (l1h : l1 ≤ 9223372036854775807) (l2l : -9223372036854775808 ≤ l2) (l2h : l2 ≤ 9223372036854775807) (l3l : -9223372036854775808 ≤ l3) (l3h : l3 ≤ 9223372036854775807) (al : -9223372036854775808 ≤ at') (ah : at' ≤ 9223372036854775807) (cl : IntKind.u8.min ≤ c) (ch : c ≤ IntKind.u8.max) (_ : raw.size ≤ maxLen) (w : World) (hg : Glob w) :
    Calls Tryz.prog 3 #[.agg #[.string xa, .string xb], .agg #[.int .i64 l0, .int .i64 l1, .int .i64 l2, .int .i64 l3], .int .i64 at', .int .u8 c, .string raw] w fun e w' => e = .returned (.bool true) ∧ Below w.heap.size w w' := by
  have I : ∀ {n : Int}, -9223372036854775808 ≤ n → n ≤ 9223372036854775807 → i64 n = true := fun a b => i64_iff.2 ⟨a, b⟩
  exact law_runT hg rfl (text_runs xa xb l0 l1 l2 l3 at' c raw (by simp only [I l0l l0h, I l1l l1h, I l2l l2h, I l3l l3h, Bool.and_self]) (I al ah)) (by kernel_rfl)
end Go.Proofs.YtgeoidnleagloaaGreatDoor
