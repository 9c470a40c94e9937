/- Walks of the reference's integer functions: lists of digits. -/
import Derived.Test.YtgeoidnleagloaaGreatDoorWL
import Derived.Test.YtgeoidnleagloaaGreatDoorPL
import Derived.Test.YtgeoidnleagloaaGreatDoorProg
set_option linter.unusedVariables false
set_option linter.unusedSimpArgs false
namespace Go.Proofs.YtgeoidnleagloaaGreatDoor
open Go.RowKit Yk

theorem infoInt : (Tryz.prog.info? 3).map (fun i => (i.zero, i.size, i.bytes)) = some (some (.int .i64 0), 1, 8) := by kernel_rfl

/-- 'append(out, x)' onto a []int of the call's own. -/
theorem appN {w : World} {ops : Array Oper} {rest : List Oper} {o : Oper} {a : Act} {Q : Exit → Act → World → Prop} {B : Nat} {v : Value} {l : List Nat} (hgd : o.guard = none) (s x : Operand)
    (ho : o.op = .call { callee := .builtin .append, args := #[s, x], argTypes := #[53, 53] }) (hs : a.eval s = v) (hown : OwnL encN 3 w B v l) (b : Nat) (c : Nat) (u : Value)
    (hx : a.eval x = .slice (some ⟨b, 0, none⟩) 1 c) (hc : w.cell? ⟨b, 0, none⟩ = some u) (y : Nat) (hu : u = encN y) (hlen : l.length + 1 ≤ 1099511627776) (hB : B ≤ w.heap.size)
    (h : ∀ v' w', OwnL encN 3 w' B v' (l ++ [y]) → Below B w w' → wpList Tryz.prog ops Q rest (a.put o.dst v') w') : wpList Tryz.prog ops Q (o :: rest) a w :=
  wpList_app1 hgd s x 53 ho (.int .i64 0) 8 Tryz.underlying53 infoInt rfl encN_one hs hown ⟨b, 0, none⟩ c u hx hc y hu hlen (by decide) hB h

theorem refDigits_step (t : ByteArray) (k : Nat) (h : k < t.size) :
    (t.data.toList.reverse.take (k + 1)).map dv = (t.data.toList.reverse.take k).map dv ++ [dv t[t.size - 1 - k]] := by
  rw [List.take_add_one, List.getElem?_reverse (by rw [ba_len]; exact h), ba_len, ba_at t (t.size - 1 - k) (by omega)]
  simp

set_option maxHeartbeats 400000 in
set_option maxRecDepth 100000 in
theorem refDigits_any (s : ByteArray) (w : World) (hs : vld s.data.toList = true) :
    Calls Tryz.prog 54 #[.string s] w fun e w' => ∃ v, e = .returned (.tuple #[.bool (negB s.data.toList), v]) ∧ Rd encN w' v (digs 10 (toI s.data.toList).natAbs) ∧ From w.heap.size v ∧ Below w.heap.size w w' := by
  rw [toI_abs]
  obtain ⟨a1, a2, a3, a4⟩ := vld_parts hs
  have h0 : 0 < s.size := by
    apply Nat.pos_of_ne_zero
    intro e
    have : s.data.toList = [] := List.eq_nil_of_length_eq_zero (by rw [ba_len]; exact e)
    rw [this] at a1; exact a1 rfl
  by_cases h45 : s[0] = 45
  · have hhd : s.data.toList.head? = some 45 := by rw [List.head?_eq_getElem?, ba_at s 0 h0, h45]
    have c1 : ((s[0].toNat : Int) == 45) = true := by rw [h45]; decide
    have hneg : negB s.data.toList = true := by simp [negB, hhd]
    have hne : s.data.toList ≠ [48] := by intro e; rw [e] at hhd; simp at hhd
    have hdt := digs_text hs hne
    obtain ⟨t, hx⟩ : ∃ t, s.extract 1 s.size = t := ⟨_, rfl⟩
    have ht : body s.data.toList = t.data.toList := by rw [← hx, body_neg hhd, ba_tail]
    have c2 : (!t.toList == [48]) = true := by
      have : t.toList ≠ [48] := by rw [ba_toList, ← ht]; exact body_ne_zero hs hne
      simp [this]
    rw [ht] at a2 a3 hdt ⊢
    rw [ba_len] at a2
    have Hdt := Lib.hid hdt; clear hdt
    have Ha3 := Lib.hid a3; clear a3
    rw [hneg]
    clear ht hneg hne a1 a4 hhd h45 hs
    go_enter Tryz.func54, Tryz.ntmps54
    go_wp2
    clear c1 hx
    go_loopw [5, 6] (fun out i wr => ∃ j : Nat, j ≤ t.size ∧ i = .int .i64 ((j : Int) - 1) ∧ OwnL encN 3 wr w.heap.size out ((t.data.toList.reverse.take (t.size - j)).map dv) ∧ Below w.heap.size w wr) (fun _ i _ => (intOf i + 1).toNat)
    case atStart => exact ⟨t.size, Nat.le_refl _, rfl, by rw [Nat.sub_self]; exact OwnL.nil _ _, Below.refl _ _⟩
    case round =>
      obtain ⟨j, hj, rfl, hown, hB⟩ := hrel
      cases j with
      | zero =>
        go_wp2
        go_ret2
        refine ⟨_, rfl, ?_, hown.from, hB⟩
        have := hown.rd
        rwa [Nat.sub_zero, List.take_of_length_le (by rw [List.length_reverse, ba_len]; exact Nat.le_refl _), Hdt.out] at this
      | succ m =>
        have hd : 48 ≤ t[m].toNat ∧ t[m].toNat ≤ 57 := (dig_iff _).1 (Ha3.out _ (List.mem_of_getElem? (ba_at t m (by omega))))
        have hsz := hB.size
        have hl : ((t.data.toList.reverse.take (t.size - (m + 1))).map dv).length ≤ t.size := by rw [List.length_map, List.length_take]; omega
        go_wp2_with (at_builtin; refine appN rfl _ _ rfl rfl (hown.alloc _) wr.heap.size 1 _ rfl (cell_new1 _ _ _) (dv t[m]) (by simp only [encN, dv]; congr 1; omega) (by omega) (by simp; omega) ?_; intro v' w1 hown1 hB1)
        go_roundw
        case rel =>
          refine ⟨m, by omega, by go_num, ?_, ((hB.alloc hB.size _).trans hB1)⟩
          have e := refDigits_step t (t.size - (m + 1)) (by omega)
          rw [show t.size - (m + 1) + 1 = t.size - m by omega] at e
          rw [e]
          simpa only [show t.size - 1 - (t.size - (m + 1)) = m by omega] using hown1
        case measure => simp [intOf]
  · have hhd : s.data.toList.head? ≠ some 45 := by rw [List.head?_eq_getElem?, ba_at s 0 h0]; simpa using h45
    have c1 : ((s[0].toNat : Int) == 45) = false := by
      have : s[0].toNat ≠ 45 := fun h => h45 (UInt8.toNat_inj.1 h)
      rw [beq_eq_false_iff_ne]; omega
    have hneg : negB s.data.toList = false := by simp [negB, hhd]
    have hb : body s.data.toList = s.data.toList := body_pos hhd
    rw [hneg]
    by_cases hne : s.data.toList = [48]
    · obtain rfl : s = ⟨#[48]⟩ := ba_ext (by rw [hne])
      rw [show nat10 (body (⟨#[48]⟩ : ByteArray).data.toList) = 0 from rfl, digs_zero]
      clear hb a1 a2 a3 a4 hs hne hneg hhd h45 c1 h0
      go_enter Tryz.func54, Tryz.ntmps54
      go_wp2
      refine wp_loop_rounds 1 ?_
      rw [rounds_succ]
      go_wp2
      go_ret2
      exact ⟨_, rfl, .inl ⟨rfl, rfl⟩, From.nil _, Below.refl _ _⟩
    · have hdt := digs_text hs hne
      have c2 : (!s.toList == [48]) = true := by rw [ba_toList]; simp [hne]
      rw [hb] at a2 a3 hdt ⊢
      rw [ba_len] at a2
      have Hdt := Lib.hid hdt; clear hdt
      have Ha3 := Lib.hid a3; clear a3
      clear hb hneg hne a1 a4 hhd h45 hs
      go_enter Tryz.func54, Tryz.ntmps54
      go_wp2
      clear c1
      go_loopw [5, 6] (fun out i wr => ∃ j : Nat, j ≤ s.size ∧ i = .int .i64 ((j : Int) - 1) ∧ OwnL encN 3 wr w.heap.size out ((s.data.toList.reverse.take (s.size - j)).map dv) ∧ Below w.heap.size w wr) (fun _ i _ => (intOf i + 1).toNat)
      case atStart => exact ⟨s.size, Nat.le_refl _, rfl, by rw [Nat.sub_self]; exact OwnL.nil _ _, Below.refl _ _⟩
      case round =>
        obtain ⟨j, hj, rfl, hown, hB⟩ := hrel
        cases j with
        | zero =>
          go_wp2
          go_ret2
          refine ⟨_, rfl, ?_, hown.from, hB⟩
          have := hown.rd
          rwa [Nat.sub_zero, List.take_of_length_le (by rw [List.length_reverse, ba_len]; exact Nat.le_refl _), Hdt.out] at this
        | succ m =>
          have hd : 48 ≤ s[m].toNat ∧ s[m].toNat ≤ 57 := (dig_iff _).1 (Ha3.out _ (List.mem_of_getElem? (ba_at s m (by omega))))
          have hsz := hB.size
          have hl : ((s.data.toList.reverse.take (s.size - (m + 1))).map dv).length ≤ s.size := by rw [List.length_map, List.length_take]; omega
          go_wp2_with (at_builtin; refine appN rfl _ _ rfl rfl (hown.alloc _) wr.heap.size 1 _ rfl (cell_new1 _ _ _) (dv s[m]) (by simp only [encN, dv]; congr 1; omega) (by omega) (by simp; omega) ?_; intro v' w1 hown1 hB1)
          go_roundw
          case rel =>
            refine ⟨m, by omega, by go_num, ?_, ((hB.alloc hB.size _).trans hB1)⟩
            have e := refDigits_step s (s.size - (m + 1)) (by omega)
            rw [show s.size - (m + 1) + 1 = s.size - m by omega] at e
            rw [e]
            simpa only [show s.size - 1 - (s.size - (m + 1)) = m by omega] using hown1
          case measure => simp [intOf]
end Go.Proofs.YtgeoidnleagloaaGreatDoor
