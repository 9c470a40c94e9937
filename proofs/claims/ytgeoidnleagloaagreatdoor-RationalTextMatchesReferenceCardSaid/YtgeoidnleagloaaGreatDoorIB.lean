/- Walks of package integer: zeros left out; the number that a text is. -/
import Derived.Test.YtgeoidnleagloaaGreatDoorIA
import Derived.Test.YtgeoidnleagloaaGreatDoorWL
import Derived.Test.YtgeoidnleagloaaGreatDoorRB
import Derived.Lib.AtoiErrMem
import Derived.Lib.IndexBytes
import Derived.Test.YtgeoidnleagloaaGreatDoorPL
set_option linter.unusedVariables false
set_option linter.unusedSimpArgs false
namespace Go.Proofs.YtgeoidnleagloaaGreatDoor
open Go.RowKit Yk

set_option maxRecDepth 100000 in
theorem trimmed_any (l : List Nat) (hd : ∀ d ∈ l, d < 10000) (v : Value) (w : World) (hv : Rd encN w v l) :
    Calls Tryz.prog 107 #[v] w fun e w' => ∃ v', e = .returned v' ∧ Rd encN w' v' (digs 10000 (val 10000 l)) ∧ (∀ B, From B v → From B v') ∧ Below w.heap.size w w' := by
  rw [← trimZ_eq (by decide) l hd]
  obtain ⟨a, cap, rfl, hca, hca2, hcell⟩ := hv.open'
  have Hadr := Lib.hid hv.addr
  have Hc := Lib.hid hcell; clear hcell hv hd
  obtain ⟨n, hn⟩ : ∃ n, l.length = n := ⟨_, rfl⟩
  have Hn := Lib.hid hn
  rw [hn] at hca ⊢
  clear hn
  go_enter Tryz.func107, Tryz.ntmps107
  go_wp2
  go_loopw [0] (fun s wr => ∃ k : Nat, k ≤ n ∧ s = .slice a k cap ∧ trimZ (l.take k) = trimZ l ∧ Below w.heap.size w wr) (fun s _ => match s with | .slice _ k _ => k | _ => 0)
  case atStart => exact ⟨n, Nat.le_refl _, rfl, by rw [List.take_of_length_le (by rw [Hn.out]; exact Nat.le_refl _)], Below.refl _ _⟩
  case round =>
    obtain ⟨k, hk, rfl, ht, hB⟩ := hrel
    have Ht := Lib.hid ht; clear ht
    cases k with
    | zero =>
      go_wp2
      go_ret
      refine ⟨_, rfl, ?_, fun B h => h.len, hB⟩
      rw [← Ht.out, List.take_zero, trimZ_nil]
      have := (Rd.take_of (k := 0) (Nat.zero_le _) (Nat.zero_le _) hca2 Hc.out Hadr.out.1 Hadr.out.2).below hB
      rwa [List.take_zero] at this
    | succ m =>
      have hm : m < l.length := by rw [Hn.out]; omega
      have Hr := Lib.hid (Rd.take_of (k := m + 1) (by omega) (by omega) hca2 Hc.out Hadr.out.1 Hadr.out.2)
      obtain ⟨b, off, rfl, hb, hc1⟩ := Hc.out m hm
      have k1 := (hB.cell (p := ⟨b, off + m, none⟩) hb).trans hc1
      clear hc1
      by_cases h0 : l[m] = 0
      · have c1 : ((l[m] : Int) == 0) = true := by rw [h0]; rfl
        have Ht2 := Lib.hid ((trimZ_zero hm h0).symm.trans Ht.out); clear h0
        go_wp2
        go_roundw
        case rel => exact ⟨m, by omega, rfl, Ht2.out, hB⟩
        case measure => simp
      · have c1 : ((l[m] : Int) == 0) = false := by rw [beq_eq_false_iff_ne]; omega
        have Ht2 := Lib.hid ((trimZ_stop hm h0).symm.trans Ht.out); clear h0
        go_wp2
        go_ret
        refine ⟨_, rfl, ?_, fun B h => h.len, hB⟩
        rw [← Ht2.out]
        exact Hr.out.below hB

theorem libAtoi4 (s : ByteArray) (w : World) (hl : s.size ≤ 18) (h0 : s.data.toList ≠ []) (hd : ∀ c ∈ s.data.toList, dig c = true) :
    Calls Tryz.prog 135 #[.string s] w fun e w' => e = .returned (.tuple #[.int .i64 (nat10 s.data.toList : Int), .nilIface]) ∧ Below w.heap.size w w' := by
  refine (Tryz.strconv_Atoi s _ hl (atoi_digits h0 hd) w).mono ?_
  rintro e w' ⟨rfl, t, rfl⟩
  exact ⟨rfl, Lib.bytesWorld_below w 5 t⟩
/-- 'append(out, x)' onto a number of the call's own. -/
theorem appG {w : World} {ops : Array Oper} {rest : List Oper} {o : Oper} {a : Act} {Q : Exit → Act → World → Prop} {B : Nat} {v : Value} {l : List Nat} (hgd : o.guard = none) (s x : Operand)
    (ho : o.op = .call { callee := .builtin .append, args := #[s, x], argTypes := #[98, 98] }) (hs : a.eval s = v) (hown : OwnL encN 3 w B v l) (b : Nat) (c : Nat) (u : Value)
    (hx : a.eval x = .slice (some ⟨b, 0, none⟩) 1 c) (hc : w.cell? ⟨b, 0, none⟩ = some u) (y : Nat) (hu : u = encN y) (hlen : l.length + 1 ≤ 1099511627776) (hB : B ≤ w.heap.size)
    (h : ∀ v' w', OwnL encN 3 w' B v' (l ++ [y]) → Below B w w' → wpList Tryz.prog ops Q rest (a.put o.dst v') w') : wpList Tryz.prog ops Q (o :: rest) a w :=
  wpList_app1 hgd s x 98 ho (.int .i64 0) 8 Tryz.underlying98 infoInt rfl encN_one hs hown ⟨b, 0, none⟩ c u hx hc y hu hlen (by decide) hB h

/-- What a round of 'parse' keeps: the struct in block X, what is left of the text, what has been read. -/
def ParseRel (tl : List UInt8) (neg : Bool) (w : World) (dv : Value) (wr : World) : Prop :=
  ∃ (k : Nat) (d : ByteArray) (L : List Nat) (v : Value), dv = .string d ∧ d.data.toList = tl.take k ∧ k ≤ tl.length ∧ Blk wr w.heap.size #[.bool false, .slice none 0 0] 100 ∧ Blk wr (w.heap.size + 1) #[.bool neg, v] 100 ∧ OwnL encN 3 wr (w.heap.size + 2) v L ∧ Below w.heap.size w wr ∧
    L.length + k ≤ tl.length + 4 ∧ (∀ z ∈ L, z < 10000) ∧ val 10000 L + 10000 ^ L.length * nat10 (tl.take k) = nat10 tl

set_option maxRecDepth 100000 in
theorem parse_any (s : ByteArray) (w : World) (hs : vS s = true) :
    Calls Tryz.prog 104 #[.string s] w fun e w' => ∃ v, e = .returned (.agg #[.bool (negB s.data.toList), v]) ∧ Rd encN w' v (digs 10000 (nS s).natAbs) ∧ From w.heap.size v ∧ Below w.heap.size w w' := by
  rw [show (nS s).natAbs = nat10 (body s.data.toList) from toI_abs _]
  obtain ⟨a1, a2, a3, a4⟩ := vld_parts hs
  have hsz := vS_size hs
  have hneg : ∀ t : ByteArray, t.data.toList = body s.data.toList → decide (t.size < s.size) = negB s.data.toList := by
    intro t ht
    rw [← ba_len t, ← ba_len s, ht]
    unfold negB body
    by_cases hh : s.data.toList.head? = some 45
    · rw [if_pos hh, List.length_tail, decide_eq_decide]
      have : s.data.toList.length ≠ 0 := by intro e; rw [List.eq_nil_of_length_eq_zero e] at hh; simp at hh
      simp only [hh, iff_true]; omega
    · rw [if_neg hh, decide_eq_decide]
      simp [hh]
  have Hneg := Lib.hid hneg
  have Ha3 := Lib.hid a3
  obtain ⟨neg, en⟩ : ∃ b, negB s.data.toList = b := ⟨_, rfl⟩
  obtain ⟨tl, etl⟩ : ∃ b, body s.data.toList = b := ⟨_, rfl⟩
  rw [en] at Hneg ⊢
  rw [etl] at a2 Ha3 Hneg ⊢
  have Hp := Lib.hid (libTrimPrefix s)
  rw [etl] at Hp
  clear hneg a1 a3 a4 hs en etl
  go_enter Tryz.func104, Tryz.ntmps104
  go_wp2_with (go_at_call 102; refine (Hp.out _).mono ?_; rintro e w1 ⟨t, rfl, ht, rfl⟩; have hn2 := Hneg.out t ht; rw [← ht, ba_len] at a2; have Ht := Lib.hid ht; clear ht)
  go_loopw [3] (fun dv wr => ParseRel tl neg w dv wr) (fun dv _ => match dv with | .string d => d.size | _ => 0)
  case atStart =>
    have h1 := Blk.new w #[.bool false, .slice none 0 0] 100
    have h2 := Blk.new (w.alloc (.cells #[.bool false, .slice none 0 0] 100)) #[.bool neg, .slice none 0 0] 100
    rw [World.size_alloc] at h2
    exact ⟨tl.length, t, [], .slice none 0 0, rfl, by rw [Ht.out, List.take_length], Nat.le_refl _, h1.alloc _, h2, OwnL.nil _ _, ((Below.refl _ w).alloc (Nat.le_refl _) _).alloc (by simp) _, by simp, by simp, by simp [val, List.take_length]⟩
  case round =>
    obtain ⟨k, d, L, v, rfl, hd, hk, hR, hX, hown, hB, hlen, hdig, hval⟩ := hrel
    have hdk : d.size = k := by rw [← ba_len, hd, List.length_take]; omega
    have htl : tl.length ≤ 200 := by rw [← Ht.out, ba_len]; exact a2
    have Hd := Lib.hid hd; clear hd
    have Hdig := Lib.hid hdig; clear hdig
    have Hval := Lib.hid hval; clear hval
    have x0 : wr.cell? ⟨w.heap.size + 1, 0, none⟩ = some (.bool neg) := hX.cell rfl
    have x1 : wr.cell? ⟨w.heap.size + 1, 1, none⟩ = some v := hX.cell rfl
    have f0 := hX.free 0
    have f1 := hX.free 1
    have r0 : wr.cell? ⟨w.heap.size, 0, none⟩ = some (.bool false) := hR.cell rfl
    have r1 : wr.cell? ⟨w.heap.size, 1, none⟩ = some (.slice none 0 0) := hR.cell rfl
    have fr0 := hR.free 0
    have fr1 := hR.free 1
    have hbs := hB.size
    have hxl := hX.lt
    by_cases hk0 : k = 0
    · subst hk0
      have Hfin : Hid (digs 10000 (val 10000 L) = digs 10000 (nat10 tl)) := by
        show digs 10000 (val 10000 L) = digs 10000 (nat10 tl)
        rw [← Hval.out, List.take_zero]; simp [nat10, val]
      go_wp2_with (go_at_call 107; refine (trimmed_any L Hdig.out _ _ hown.rd).mono ?_; rw [Hfin.out]; rintro e w1 ⟨v1, rfl, hr1, hf1, hb1⟩; obtain ⟨ad, cp, rfl, _⟩ := hr1.open'; have X1 := hX.below hb1 hxl; have R1 := hR.below hb1 (by omega); have y0 : w1.cell? ⟨w.heap.size + 1, 0, none⟩ = some (.bool neg) := X1.cell rfl; have y1 : w1.cell? ⟨w.heap.size + 1, 1, none⟩ = some v := X1.cell rfl; have g1 := X1.free 1; have q0 : w1.cell? ⟨w.heap.size, 0, none⟩ = some (.bool false) := R1.cell rfl; have q1 : w1.cell? ⟨w.heap.size, 1, none⟩ = some (.slice none 0 0) := R1.cell rfl; have h0 := R1.free 0; have h1 := R1.free 1)
      refine bodyPost_ret (v := .agg #[.bool neg, .slice ad (digs 10000 (nat10 tl)).length cp]) (by simp [results, Tryz.results104, go_sem, q0, q1, h0, h1]) rfl ?_
      have hfr := hf1 _ hown.from
      refine ⟨_, rfl, ?_, hfr.mono (by omega), ?_⟩
      · exact ((hr1.setCell hfr (by simp) _).setCell hfr (by simp) _).setCell hfr (by simp) _
      · exact (((hB.trans (hb1.mono hbs)).setCell (by simp) _).setCell (by simp) _).setCell (by simp) _
    · have hd0 : 0 < d.size := by omega
      obtain ⟨f, hf⟩ : ∃ f, k - 4 = f := ⟨_, rfl⟩
      have hm : max (0 : Int) ((k : Int) - 4) = (f : Int) := by omega
      have hfk : f ≤ k := by omega
      have hchunk : (d.extract f d.size).data.toList = (tl.take k).drop (k - 4) := by rw [Lib.extract_to_end, Hd.out, hf]
      have hc1 : (d.extract f d.size).size ≤ 18 := by rw [← ba_len, hchunk, List.length_drop, List.length_take]; omega
      have hc2 : (d.extract f d.size).data.toList ≠ [] := by
        intro e; have := congrArg List.length e; rw [hchunk, List.length_drop, List.length_take] at this; simp at this; omega
      have hc3 : ∀ c ∈ (d.extract f d.size).data.toList, dig c = true := by
        rw [hchunk]; intro c hc; exact Ha3.out c (List.mem_of_mem_take (List.mem_of_mem_drop hc))
      have hlt := group_lt hk Ha3.out
      have hst := group_step hk Hval.out
      have hrest : (d.extract 0 f).data.toList = tl.take f := by
        rw [ByteArray.data_extract]; simp; rw [Hd.out, List.take_take]; congr 1; omega
      rw [hf] at hst
      obtain ⟨g, hg⟩ : ∃ g, nat10 ((tl.take k).drop (k - 4)) = g := ⟨_, rfl⟩
      rw [hf] at hlt hg hchunk
      rw [hg] at hlt hst
      have hA : ∀ w, Calls Tryz.prog 135 #[.string (d.extract f d.size)] w fun e w' => e = .returned (.tuple #[.int .i64 (g : Int), .nilIface]) ∧ Below w.heap.size w w' := by
        intro w; have := libAtoi4 _ w hc1 hc2 hc3; rwa [hchunk, hg] at this
      obtain ⟨c, hcc⟩ : ∃ c, d.extract f d.size = c := ⟨_, rfl⟩
      obtain ⟨d2, hd2⟩ : ∃ c, d.extract 0 f = c := ⟨_, rfl⟩
      rw [hcc] at hA
      rw [hd2] at hrest
      rw [hdk] at hcc
      have HA := Lib.hid hA
      have Hrest := Lib.hid hrest
      have Hst := Lib.hid hst
      have Hf := Lib.hid hf
      clear hc1 hc2 hc3 hchunk hA hrest hst hg hf
      have hlL : L.length ≤ 300 := by omega
      go_wp2_with (first
        | (go_at_call 135; refine (HA.out _).mono ?_; rintro e w1 ⟨rfl, hb1⟩; have s1 := hb1.size; have y1 : w1.cell? ⟨w.heap.size + 1, 1, none⟩ = some v := (hb1.cell (p := ⟨w.heap.size + 1, 1, none⟩) hxl).trans x1)
        | (at_builtin; refine appG rfl _ _ rfl rfl ((hown.belowTo hb1).alloc _) w1.heap.size 1 _ rfl (cell_new1 _ _ _) g rfl (by omega) (by simp; omega) ?_; intro v' w2 hown2 hB2; obtain ⟨gb, cap, rfl, hgb1, hgb2⟩ := hown2.some_of; have z1 : w2.cell? ⟨w.heap.size + 1, 1, none⟩ = some v := (((hX.below hb1 hxl).alloc _).below hB2 (by omega)).cell rfl; have zf := (((hX.below hb1 hxl).alloc (.cells #[.int .i64 (g : Int)] 3)).below hB2 (by omega)).free 1))
      go_roundw
      case rel =>
        refine ⟨f, d2, _, _, rfl, Hrest.out, by omega, ?_, ?_, hown2.setOther (by simp) _, ?_, by simp; omega, ?_, Hst.out⟩
        · exact (((hR.below hb1 (by omega)).alloc _).below hB2 (by omega)).setOther (by simp) _
        · exact (((hX.below hb1 hxl).alloc _).below hB2 (by omega)).set 1 _
        · exact ((hB.trans (hb1.mono hbs)).alloc (Nat.le_trans hbs s1) _ |>.trans (hB2.mono (by omega))).setCell (by simp) _
        · intro z hz
          rcases List.mem_append.1 hz with h | h
          · exact Hdig.out z h
          · simp at h; omega
      case measure =>
        have e1 : d2.size = f := by rw [← ba_len, Hrest.out, List.length_take]; omega
        simp only [e1, hdk]
        have := Hf.out
        omega
end Go.Proofs.YtgeoidnleagloaaGreatDoor
