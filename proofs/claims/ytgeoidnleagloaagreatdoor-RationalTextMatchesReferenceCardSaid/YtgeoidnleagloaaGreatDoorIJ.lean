/- Walks of package integer: the text of a number. -/
import Derived.Laws.EntriesVeiled
import Derived.Test.YtgeoidnleagloaaGreatDoorIC
import Derived.Test.YtgeoidnleagloaaGreatDoorIK
import Derived.Test.YtgeoidnleagloaaGreatDoorPL
set_option linter.unusedVariables false
set_option linter.unusedSimpArgs false
namespace Go.Proofs.YtgeoidnleagloaaGreatDoor
open Go.RowKit Yk
attribute [local go_sem] Oper.semAt_some

/-- A text's next piece. -/
def txStep (n : Nat) (acc : List UInt8) (p : Nat × Nat) : List UInt8 := acc ++ (if p.1 < n - 1 then pad4 p.2 else Lib.decDigits p.2)
def txFold {l : List Nat} (n : Nat) (pre : List (Place l)) : List UInt8 := (pre.map (·.1)).foldl (txStep n) []
theorem txFold_snoc {l : List Nat} (n : Nat) (pre : List (Place l)) (p : Place l) : txFold n (pre ++ [p]) = txStep n (txFold n pre) p.1 := by
  unfold txFold; rw [List.map_append, List.foldl_append]; rfl
theorem pad4_len {d : Nat} (hd : d < 10000) : (pad4 d).length = 4 := by
  have := decDigits_len_group hd
  unfold pad4
  rw [List.length_append, List.length_replicate]; omega
theorem txFold_len {l : List Nat} {n : Nat} (hl : ∀ z ∈ l, z < 10000) (pre : List (Place l)) : (txFold n pre).length ≤ 4 * pre.length := by
  induction h : pre.length generalizing pre with
  | zero => rw [List.eq_nil_of_length_eq_zero h]; simp [txFold]
  | succ k ih =>
    obtain ⟨ini, last, rfl⟩ : ∃ ini last, pre = ini ++ [last] := ⟨pre.dropLast, pre.getLast (by intro e; rw [e] at h; simp at h), (List.dropLast_concat_getLast _).symm⟩
    have h1 := ih ini (by simp at h; omega)
    have hp : last.1.2 < 10000 := hl _ (List.mem_of_getElem? last.2)
    have h2 := pad4_len hp
    have h3 := decDigits_len_group hp
    rw [txFold_snoc, txStep, List.length_append]
    split <;> omega
theorem txFold_end {x : Nat} (hx : x ≠ 0) {ys : List (Place (digs 10000 x))} (h : ys.map (·.1) = bwTo (digs 10000 x) (digs 10000 x).length) : txFold (digs 10000 x).length ys = Lib.decDigits x := by
  have key : ∀ k, k ≤ (digs 10000 x).length → (bwTo (digs 10000 x) k).foldl (txStep (digs 10000 x).length) [] = topT (digs 10000 x) k := by
    intro k hk
    induction k with
    | zero => simp [bwTo, topT]
    | succ k ih =>
      rw [bwTo_succ, List.foldl_append, ih (by omega), List.foldl_cons, List.foldl_nil, txStep]
      have hj : (digs 10000 x).length - 1 - k < (digs 10000 x).length := by omega
      have e : (digs 10000 x).getD ((digs 10000 x).length - 1 - k) 0 = (digs 10000 x)[(digs 10000 x).length - 1 - k] := by
        rw [List.getD_eq_getElem?_getD, List.getElem?_eq_getElem hj]; rfl
      simp only [e]
      by_cases h0 : k = 0
      · subst h0
        rw [if_neg (by omega)]
        simp only [Nat.sub_zero]
        exact (topT_first (by omega)).symm
      · rw [if_pos (by omega)]
        exact (topT_next (digs_last (by decide) x) (digs_lt (by decide) x) (by omega) (by omega)).symm
  unfold txFold
  rw [h, key _ (Nat.le_refl _), topT_end hx]

theorem libItoa4 (n : Nat) (w : World) (hg : Glob w) (hn : n < 10000) : Calls Tryz.prog 98 #[.int .i64 (n : Int)] w fun e w' => e = .returned (.string ⟨(Lib.decDigits n).toArray⟩) ∧ Below w.heap.size w w' := by
  refine (Tryz.strconv_Itoa (n : Int) (by omega) (by omega) w hg.2.1).mono ?_
  rintro e w' ⟨rfl, k, os, rfl⟩
  refine ⟨by rw [itoa_pos (by omega)]; rfl, ?_⟩
  exact ⟨rfl, rfl, rfl, by simp [Go.Sort.grow], fun b hb => by simp [Go.Sort.grow, Array.getElem?_append, hb]⟩
theorem libRepeat0 (c : Int) (w : World) (h0 : 0 ≤ c) (h4 : c ≤ 1000) : Calls Tryz.prog 96 #[.string ⟨#[48]⟩, .int .i64 c] w fun e w' => e = .returned (.string ⟨(List.replicate c.toNat 48).toArray⟩) ∧ Below w.heap.size w w' := by
  obtain ⟨n, rfl⟩ := Int.eq_ofNat_of_zero_le h0
  refine (Tryz.strings_Repeat ⟨#[48]⟩ n w (by omega) (by show 1 * n ≤ _; omega)).mono ?_
  rintro e w' ⟨rfl, hb⟩
  exact ⟨by rw [show (⟨#[48]⟩ : ByteArray).data.toList = [48] from rfl, repeatL_one]; rfl, hb⟩
theorem strCells_byte (t : ByteArray) : Lib.strCells t = Lib.byteCells t.data.toList := by rw [Lib.strCells_eq]

theorem chkI_pos {x : Nat} {t : ByteArray} (h : x < BIG) (ht : (⟨(Lib.decDigits x).toArray⟩ : ByteArray) = t) : chkI (sgn false x) = (t, 0) := by
  unfold chkI
  rw [if_pos (by rw [sgn_abs]; exact h), ← ht]
  unfold ofI sgn
  rw [if_neg (by decide), itoa_pos (by omega)]; rfl
theorem chkI_neg {x : Nat} {t : ByteArray} (h : x < BIG) (h0 : x ≠ 0) (ht : (⟨(Lib.decDigits x).toArray⟩ : ByteArray) = t) : chkI (sgn true x) = ((⟨#[45]⟩ ++ t : ByteArray), 0) := by
  unfold chkI
  rw [if_pos (by rw [sgn_abs]; exact h), ← ht]
  unfold ofI sgn
  rw [if_pos rfl, itoa_neg (by omega), Int.natAbs_neg, Int.natAbs_natCast]
  congr 1
theorem chkI_big {x : Nat} (neg : Bool) (h : ¬ x < BIG) : chkI (sgn neg x) = (⟨#[]⟩, 30) := by
  unfold chkI
  rw [if_neg (by rw [sgn_abs]; exact h)]; rfl
/-- What a round of 'text' keeps. -/
def TxInv {l : List Nat} (n : Nat) (st : Value) (sv : Value) (w : World) (pre : List (Place l)) (W : World) : Prop :=
  (Lib.IsBuilderF 91 5 (w.heap.size + 1) (w.heap.size + 1) (Lib.byteCells (txFold n pre)) W ∧ Blk W w.heap.size #[st, sv] 100 ∧ Blk W (w.heap.size + 1 + 1) #[sv] 98) ∧ Below w.heap.size w W

set_option maxRecDepth 100000 in
set_option maxHeartbeats 4000000 in
theorem text_pos (neg : Bool) (x : Nat) (hx0 : x ≠ 0) (aa : Option Addr) (ca : Nat) (w : World) (hv : Rd encN w (.slice aa (digs 10000 x).length ca) (digs 10000 x)) (hg : Glob w) (hx : (digs 10000 x).length ≤ 1000) :
    Calls Tryz.prog 82 #[.agg #[.bool neg, .slice aa (digs 10000 x).length ca]] w fun e w' => e = .returned (.tuple #[.string (chkI (sgn neg x)).1, .int .i64 (chkI (sgn neg x)).2]) ∧ Below w.heap.size w w' := by
  have Ha := Lib.hid hv
  obtain ⟨n, hn⟩ : ∃ n, (digs 10000 x).length = n := ⟨_, rfl⟩
  have Hn := Lib.hid hn
  rw [hn] at hx Ha ⊢
  have hn0 : n ≠ 0 := by
    intro e; apply hx0
    exact (digs_eq_nil (B := 10000) (by decide)).1 (List.eq_nil_of_length_eq_zero (hn.trans e))
  have c0 : ((n : Int) == 0) = false := by rw [beq_eq_false_iff_ne]; omega
  clear hn hv hx0
  have Hg := Lib.hid hg
  clear hg
  refine (callsIn_wide (n := 5)).1 ?_
  refine callsIn_of_wp_marks Tryz.func82 rfl trivial ?_ rfl
  simp only [Tryz.ntmps82, List.size_toArray, List.length_cons, List.length_nil, Nat.reduceAdd, Nat.reduceSub, Array.replicate_succ, Array.replicate_zero, List.push_toArray, List.append_toArray, List.nil_append, List.cons_append]
  gi_wp2_with (first
    | (refine ⟨trivial, ?_⟩; gi_at_call 106; refine (callsIn_wide.2 (backward_any _ _ _ _)).mono ?_; rintro e w' ⟨rfl, rfl⟩))
  have hS0 : Blk (((w.alloc (.cells #[.bool neg, .slice aa n ca] 100)).alloc (.cells #[.pointer none, .slice none 0 0] 91)).alloc (.cells #[.slice aa n ca] 98)) w.heap.size #[.bool neg, .slice aa n ca] 100 := ((Blk.new w _ _).alloc _).alloc _
  have hU0 : Lib.IsBuilderF 91 5 (w.heap.size + 1) (w.heap.size + 1) (Lib.byteCells []) (((w.alloc (.cells #[.bool neg, .slice aa n ca] 100)).alloc (.cells #[.pointer none, .slice none 0 0] 91)).alloc (.cells #[.slice aa n ca] 98)) := by
    have h1 := Lib.IsBuilderF.of (Lib.fresh_isBuilder 91 5 (w.alloc (.cells #[.bool neg, .slice aa n ca] 100)))
    rw [World.size_alloc] at h1
    exact h1.alloc _
  have hX0 : Blk (((w.alloc (.cells #[.bool neg, .slice aa n ca] 100)).alloc (.cells #[.pointer none, .slice none 0 0] 91)).alloc (.cells #[.slice aa n ca] 98)) (w.heap.size + 1 + 1) #[.slice aa n ca] 98 := Blk.newAt _ _ _ (by simp)
  have hB0 : Below w.heap.size w (((w.alloc (.cells #[.bool neg, .slice aa n ca] 100)).alloc (.cells #[.pointer none, .slice none 0 0] 91)).alloc (.cells #[.slice aa n ca] 98)) := (((Below.refl _ w).alloc (Nat.le_refl _) _).alloc (by simp) _).alloc (by simp; omega) _
  have hsz : w.heap.size + 1 + 1 + 1 = (((w.alloc (.cells #[.bool neg, .slice aa n ca] 100)).alloc (.cells #[.pointer none, .slice none 0 0] 91)).alloc (.cells #[.slice aa n ca] 98)).heap.size := by simp
  generalize (((w.alloc (.cells #[.bool neg, .slice aa n ca] 100)).alloc (.cells #[.pointer none, .slice none 0 0] 91)).alloc (.cells #[.slice aa n ca] 98)) = W0 at *
  refine wp_backward (by omega) (w.heap.size + 1 + 1) w.heap.size rfl (.slice aa n ca) (digs 10000 x) (by rw [Hn.out]; omega) hX0.lt (by omega) (hX0.cell rfl) ?rd ?fr rfl
    (fun pre W => TxInv n (.bool neg) (.slice aa n ca) w pre W)
    (fun _ _ _ => False)
    ?own ?ownx ?start (fun p t => (((t.setIfInBounds 16 (.int .i64 (p.1.1 : Int))).setIfInBounds 17 (.int .i64 (p.1.2 : Int))).setIfInBounds 5 (.int .i64 (p.1.1 : Int))).setIfInBounds 6 (.int .i64 (p.1.2 : Int))) ?assign ?body ?done ?stop
  case rd => exact Ha.out.below hB0
  case fr =>
    intro k hk
    rcases Ha.out with ⟨h, _⟩ | ⟨b, off, cap, h, hb, _⟩
    · cases h; cases hk
    · cases h; cases hk; exact hb
  case own => exact OwnFrom.and (Own.from (fun s A B row hs hg hr => ⟨isBuilderF_kept hs.1 hg hr, hs.2.1.kept hg hr, hs.2.2.kept hg hr⟩) _) (ownFrom_below (Nat.le_refl _) (by omega))
  case ownx => exact fun _ _ _ _ _ hs _ _ => hs
  case start => exact ⟨⟨by simpa [txFold] using hU0, hS0, hX0⟩, hB0⟩
  case assign =>
    intro l x W K hK
    simp only [List.setIfInBounds_toArray, List.set_cons_succ, List.set_cons_zero] at hK
    gi_wp2
    exact hK
  case body =>
    rintro l pre p W ⟨⟨hU, hS, hX⟩, hB⟩ hlen
    simp only [List.setIfInBounds_toArray, List.set_cons_succ, List.set_cons_zero]
    have hpd : p.1.2 < 10000 := digs_lt (by decide) x _ (List.mem_of_getElem? p.2)
    have hpi : p.1.1 < n := by have := (List.getElem?_eq_some_iff.1 p.2).1; rw [Hn.out] at this; exact this
    have HtL := txFold_len (n := n) (digs_lt (by decide) x) pre
    rw [Hn.out] at hlen
    have HS := Lib.hid hS
    have HU := Lib.hid hU
    have s1 : W.cell? ⟨w.heap.size, 1, none⟩ = some (.slice aa n ca) := hS.cell rfl
    have hgW := Lib.hid (Hg.out.below hB)
    have hdl := decDigits_len_group hpd
    have HX := Lib.hid hX
    clear hS hU hX
    have hEnd : Hid (∀ W1 W2 (t : ByteArray), Below W.heap.size W W1 → t.data.toList = (if p.1.1 < n - 1 then pad4 p.1.2 else Lib.decDigits p.1.2) → (Lib.IsBuilderF 91 5 (w.heap.size + 1) (w.heap.size + 1) (Lib.byteCells (txFold n pre) ++ Lib.strCells t) W2 ∧ Below (w.heap.size + 1) W1 W2 ∧ Lib.OthersKept 5 (some (w.heap.size + 1)) W1 W2) → KeepsOthers W W2 ∧ KpB w.heap.size (w.heap.size + 1 + 1) W W2 ∧ TxInv n (.bool neg) (.slice aa n ca) w (pre ++ [p]) W2) := by
      refine Lib.hid ?_
      rintro W1 W2 t hb1 ht ⟨h1, h2, h3⟩
      have hS1 := HS.out.below hb1 HS.out.lt
      have hX1 := HX.out.below hb1 HX.out.lt
      have hU1 := isBuilderF_below HU.out hb1
      have hS2 : Blk W2 w.heap.size #[.bool neg, .slice aa n ca] 100 := h3 _ _ hS1 (by simp) (by intro c fz e; injection e with e1 e2; exact absurd e2 (by decide))
      have hX2 : Blk W2 (w.heap.size + 1 + 1) #[.slice aa n ca] 98 := h3 _ _ hX1 (by simp) (by intro c fz e; injection e with e1 e2; exact absurd e2 (by decide))
      refine ⟨(keepsOthers_of_below hb1 (Nat.le_refl _)).trans (keepsOthers_of_othersKept h3 (isBuilderF_cells hU1) h2.size), ⟨(hb1.mono (by have := HX.out.lt; omega)).trans (h2.mono (by omega)), ?_⟩, ⟨?_, hS2, hX2⟩, hB.trans ((hb1.mono (by have := HX.out.lt; omega)).trans (h2.mono (by omega)))⟩
      · rw [show W2.heap[w.heap.size + 1 + 1]? = _ from hX2, show W.heap[w.heap.size + 1 + 1]? = _ from HX.out]
      · rw [txFold_snoc, txStep, ← ht, Lib.byteCells_append, ← strCells_byte]; exact h1
    have hWr : Hid (∀ W1 (t : ByteArray), Below W.heap.size W W1 → t.size ≤ 4 → Calls Tryz.prog 75 #[.pointer (some ⟨w.heap.size + 1, 0, none⟩), .string t] W1 fun e w' => e = .returned (.tuple #[.int .i64 t.size, .nilIface]) ∧ Lib.IsBuilderF 91 5 (w.heap.size + 1) (w.heap.size + 1) (Lib.byteCells (txFold n pre) ++ Lib.strCells t) w' ∧ Below (w.heap.size + 1) W1 w' ∧ Lib.OthersKept 5 (some (w.heap.size + 1)) W1 w') := by
      refine Lib.hid ?_
      intro W1 t hb1 ht
      exact writeString_any _ _ _ t W1 (isBuilderF_below HU.out hb1) (by rw [Lib.byteCells_length]; omega) (by have h1 := hb1.size; have h2 := HX.out.lt; omega)
    have hdl2 : (⟨(Lib.decDigits p.1.2).toArray⟩ : ByteArray).size = (Lib.decDigits p.1.2).length := by rw [← ba_len]
    obtain ⟨ds, hds⟩ : ∃ ds : ByteArray, (⟨(Lib.decDigits p.1.2).toArray⟩ : ByteArray) = ds := ⟨_, rfl⟩
    have HI := Lib.hid (libItoa4 p.1.2 W hgW.out hpd)
    rw [hds] at hdl2 HI
    rw [← hdl2] at hdl
    have Hds := Lib.hid hds
    clear hdl2 hds
    by_cases hlt : p.1.1 < n - 1
    · have c1 : decide ((p.1.1 : Int) < (n : Int) - 1) = true := by simp; omega
      gi_wp2_with (first
        | (refine ⟨trivial, ?_⟩; gi_at_call 98; refine (CallsIn.inRound l (callsIn_wide.2 HI.out)).mono ?_; rintro e w1 ⟨rfl, hb1⟩; have s2 : w1.cell? ⟨w.heap.size, 1, none⟩ = some (.slice aa n ca) := (hb1.cell (p := ⟨w.heap.size, 1, none⟩) HS.out.lt).trans s1)
        | (refine ⟨trivial, ?_⟩; gi_at_call 96; refine (CallsIn.inRound l (callsIn_wide.2 (libRepeat0 _ _ (by omega) (by omega)))).mono ?_; rintro e w2 ⟨rfl, hb2⟩))
      obtain ⟨t, ht⟩ : ∃ t : ByteArray, (⟨Array.replicate (4 - ds.size) 48⟩ ++ ds : ByteArray) = t := ⟨_, rfl⟩
      have htl : t.data.toList = pad4 p.1.2 := by
        have hz2 : ds.data.toList = Lib.decDigits p.1.2 := by rw [← Hds.out]
        have hz : ds.size = (Lib.decDigits p.1.2).length := by rw [← ba_len, hz2]
        rw [← ht]
        simp [pad4, hz, hz2]
      have hts : t.size ≤ 4 := by rw [← ba_len, htl, pad4_len hpd]; omega
      rw [ht]
      refine ⟨trivial, ?_⟩
      refine (CallsIn.inRound l (callsIn_wide.2 (hWr.out w2 t (hb1.trans (hb2.mono hb1.size)) hts))).mono ?_
      rintro e w3 ⟨rfl, h3⟩
      have h4 := hEnd.out w2 w3 t (hb1.trans (hb2.mono hb1.size)) (by rw [if_pos hlt, htl]) h3
      have H4 := Lib.hid h4
      clear h3 h4 ht htl
      gi_wp2
      exact ⟨H4.out.1.from _, H4.out.2.1, H4.out.2.2⟩
    · have c1 : decide ((p.1.1 : Int) < (n : Int) - 1) = false := by simp; omega
      gi_wp2_with (first
        | (refine ⟨trivial, ?_⟩; gi_at_call 98; refine (CallsIn.inRound l (callsIn_wide.2 HI.out)).mono ?_; rintro e w1 ⟨rfl, hb1⟩; have s2 : w1.cell? ⟨w.heap.size, 1, none⟩ = some (.slice aa n ca) := (hb1.cell (p := ⟨w.heap.size, 1, none⟩) HS.out.lt).trans s1))
      refine ⟨trivial, ?_⟩
      refine (CallsIn.inRound l (callsIn_wide.2 (hWr.out w1 ds hb1 (by omega)))).mono ?_
      rintro e w3 ⟨rfl, h3⟩
      have H4 := Lib.hid (hEnd.out w1 w3 ds hb1 (by rw [if_neg hlt, ← Hds.out]) h3)
      clear h3
      gi_wp2
      exact ⟨H4.out.1.from _, H4.out.2.1, H4.out.2.2⟩
  case done =>
    rintro D ys W hD hys ⟨⟨hU, hS, hX⟩, hB⟩ hK
    have htx : txFold n ys = Lib.decDigits x := by rw [← Hn.out]; exact txFold_end (by intro e; subst e; apply hn0; rw [← Hn.out, digs_zero]; rfl) hys
    rw [htx] at hU
    have HK := Lib.hid hK
    have HS := Lib.hid hS
    have HU := Lib.hid hU
    have hlt := hX.lt
    have hbx : Hid ((Lib.decDigits x).length ≤ 200 ↔ x < BIG) := Lib.hid (decDigits_length_le x 200 (by decide))
    have hts : (⟨(Lib.decDigits x).toArray⟩ : ByteArray).size = (Lib.decDigits x).length := by rw [← ba_len]
    obtain ⟨t, ht⟩ : ∃ t : ByteArray, (⟨(Lib.decDigits x).toArray⟩ : ByteArray) = t := ⟨_, rfl⟩
    rw [ht] at hts
    have Ht := Lib.hid ht
    have Hts := Lib.hid hts
    have hSt := Lib.hid (Tryz.Builder_String_any_k (w.heap.size + 1) (w.heap.size + 1) (Lib.decDigits x) W HU.out (by omega))
    rw [ht] at hSt
    clear hys htx hK hS hU hX ht hts
    by_cases hbig : x < BIG
    · have c2 : ¬ (200 : Int) < (t.size : Int) := by have := hbx.out.2 hbig; rw [← Hts.out] at this; omega
      have hx0 : x ≠ 0 := by intro e; apply hn0; rw [← Hn.out, e, digs_zero]; rfl
      have Hp := Lib.hid (chkI_pos hbig Ht.out)
      have Hm := Lib.hid (chkI_neg hbig hx0 Ht.out)
      clear hbig hx0
      cases neg
      · gi_wp2_with (refine ⟨trivial, ?_⟩; gi_at_call 76; refine (callsIn_wide.2 hSt.out).mono ?_
                     rintro e w2 ⟨rfl, h1, h2, h3⟩
                     have hS2 : Blk w2 w.heap.size #[.bool false, .slice aa n ca] 100 := h3 _ _ HS.out (by simp) (by intro c fz e; injection e with e1 e2; exact absurd e2 (by decide))
                     have s0 : w2.cell? ⟨w.heap.size, 0, none⟩ = some (.bool false) := hS2.cell (i := 0) rfl
                     have HK2 := Lib.hid (h3 _ _ HK.out (by simp; omega) (by intro c fz e; cases e))
                     have HB2 := Lib.hid (hB.trans (h2.mono (by omega)))
                     clear hS2 h1 h2 h3)
        refine ⟨by simp, .inl ⟨_, _, rfl, run_takeDeferred HK2.out, ?_⟩⟩
        refine ⟨.tuple #[.string t, .int .i64 0], ?_, ?_, HB2.out.trans (belowK_b (w := w) (Nat.le_refl _) _ D _ _ (by omega) HK2.out rfl rfl)⟩
        · simp [results, Tryz.f82, go_sem]
        · rw [Hp.out]
      · gi_wp2_with (refine ⟨trivial, ?_⟩; gi_at_call 76; refine (callsIn_wide.2 hSt.out).mono ?_
                     rintro e w2 ⟨rfl, h1, h2, h3⟩
                     have hS2 : Blk w2 w.heap.size #[.bool true, .slice aa n ca] 100 := h3 _ _ HS.out (by simp) (by intro c fz e; injection e with e1 e2; exact absurd e2 (by decide))
                     have s0 : w2.cell? ⟨w.heap.size, 0, none⟩ = some (.bool true) := hS2.cell (i := 0) rfl
                     have HK2 := Lib.hid (h3 _ _ HK.out (by simp; omega) (by intro c fz e; cases e))
                     have HB2 := Lib.hid (hB.trans (h2.mono (by omega)))
                     clear hS2 h1 h2 h3)
        refine ⟨by simp, .inl ⟨_, _, rfl, run_takeDeferred HK2.out, ?_⟩⟩
        refine ⟨.tuple #[.string (⟨#[45]⟩ ++ t), .int .i64 0], ?_, ?_, HB2.out.trans (belowK_b (w := w) (Nat.le_refl _) _ D _ _ (by omega) HK2.out rfl rfl)⟩
        · simp [results, Tryz.f82, go_sem]
        · rw [Hm.out]
    · have c2 : (200 : Int) < (t.size : Int) := by have h : ¬ (Lib.decDigits x).length ≤ 200 := (fun h => hbig (hbx.out.1 h)); rw [← Hts.out] at h; omega
      have Hp := Lib.hid (chkI_big neg hbig)
      clear hbig
      gi_wp2_with (refine ⟨trivial, ?_⟩; gi_at_call 76; refine (callsIn_wide.2 hSt.out).mono ?_
                   rintro e w2 ⟨rfl, h1, h2, h3⟩
                   have HK2 := Lib.hid (h3 _ _ HK.out (by simp; omega) (by intro c fz e; cases e))
                   have HB2 := Lib.hid (hB.trans (h2.mono (by omega)))
                   clear h1 h2 h3)
      refine ⟨by simp, .inl ⟨_, _, rfl, run_takeDeferred HK2.out, ?_⟩⟩
      refine ⟨.tuple #[.string ⟨#[]⟩, .int .i64 30], ?_, ?_, HB2.out.trans (belowK_b (w := w) (Nat.le_refl _) _ D _ _ (by omega) HK2.out rfl rfl)⟩
      · simp [results, Tryz.f82, go_sem]
      · rw [Hp.out]
  case stop => exact fun _ _ _ _ _ _ hx _ => hx.elim

set_option maxRecDepth 100000 in
theorem text_any (neg : Bool) (x : Nat) (v : Value) (w : World) (hv : Rd encN w v (digs 10000 x)) (hg : Glob w) (hx : (digs 10000 x).length ≤ 1000) :
    Calls Tryz.prog 82 #[.agg #[.bool neg, v]] w fun e w' => e = .returned (.tuple #[.string (chkI (sgn neg x)).1, .int .i64 (chkI (sgn neg x)).2]) ∧ Below w.heap.size w w' := by
  obtain ⟨aa, ca, rfl, _⟩ := hv.open'
  by_cases h0 : x = 0
  · subst h0
    have e : chkI (sgn neg 0) = (⟨#[48]⟩, 0) := by
      have h1 : sgn neg 0 = 0 := by unfold sgn; split <;> rfl
      have h2 : (0 : Nat) < BIG := zero_lt_BIG
      unfold chkI
      rw [h1, if_pos (by simpa using h2)]
      congr 1
      apply ba_ext
      rw [ofI_list, itoa_pos (by decide), decDigits_digs]; simp
    rw [e, digs_zero]
    clear e hv hx hg
    go_enter Tryz.func82, Tryz.ntmps82
    go_wp2
    go_ret2
    exact ⟨rfl, (Below.refl _ w).alloc (Nat.le_refl _) _⟩
  · exact text_pos neg x h0 aa ca w hv hg hx
end Go.Proofs.YtgeoidnleagloaaGreatDoor
