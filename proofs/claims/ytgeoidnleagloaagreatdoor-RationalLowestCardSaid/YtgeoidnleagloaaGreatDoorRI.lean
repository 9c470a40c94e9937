/- Walks of the reference's integer functions: the text of a number. -/
import Derived.Test.YtgeoidnleagloaaGreatDoorRH
import Derived.Test.YtgeoidnleagloaaGreatDoorWL
import Derived.Test.YtgeoidnleagloaaGreatDoorPL
set_option linter.unusedVariables false
set_option linter.unusedSimpArgs false
namespace Go.Proofs.YtgeoidnleagloaaGreatDoor
open Go.RowKit Yk

theorem infoByte : (Tryz.prog.info? 5).map (fun i => (i.zero, i.size, i.bytes)) = some (some (.int .u8 0), 1, 1) := by kernel_rfl
/-- 'append(out, c)' onto a []byte of the call's own. -/
theorem appB {w : World} {ops : Array Oper} {rest : List Oper} {o : Oper} {a : Act} {Q : Exit → Act → World → Prop} {B : Nat} {v : Value} {l : List UInt8} (hgd : o.guard = none) (s x : Operand)
    (ho : o.op = .call { callee := .builtin .append, args := #[s, x], argTypes := #[35, 35] }) (hs : a.eval s = v) (hown : OwnL encB 5 w B v l) (b : Nat) (c : Nat) (u : Value)
    (hx : a.eval x = .slice (some ⟨b, 0, none⟩) 1 c) (hc : w.cell? ⟨b, 0, none⟩ = some u) (y : UInt8) (hu : u = encB y) (hlen : l.length + 1 ≤ 1099511627776) (hB : B ≤ w.heap.size)
    (h : ∀ v' w', OwnL encB 5 w' B v' (l ++ [y]) → Below B w w' → wpList Tryz.prog ops Q rest (a.put o.dst v') w') : wpList Tryz.prog ops Q (o :: rest) a w :=
  wpList_app1 hgd s x 35 ho (.int .u8 0) 1 Tryz.underlying35 infoByte rfl encB_one hs hown ⟨b, 0, none⟩ c u hx hc y hu hlen (by decide) hB h
theorem runStr (w : World) {v : Value} {l : List UInt8} (h : Rd encB w v l) : (Go.convert 35 9 v).run Tryz.prog w = .ok (.string ⟨l.toArray⟩) w :=
  run_string w 35 9 5 Tryz.underlying35 Tryz.underlying5 Tryz.underlying9 h

/-- A digit's byte. -/
def chr (d : Nat) : UInt8 := UInt8.ofNat (48 + d)
theorem ofI_sgn {neg : Bool} {x : Nat} (h : x ≠ 0) : ofI (sgn neg x) = ⟨((if neg then [45] else []) ++ ((digs 10 x).reverse.map chr)).toArray⟩ := by
  apply ba_ext
  rw [ofI_list]
  have e : Lib.decDigits x = (digs 10 x).reverse.map chr := by rw [decDigits_digs, if_neg h]; rfl
  cases neg with
  | true => rw [sgn, if_pos rfl, itoa_neg (by omega), show (-(x : Int)).natAbs = x by omega, e]; rfl
  | false => rw [sgn, if_neg (by decide), itoa_pos (by omega), show ((x : Int)).natAbs = x by omega, e]; rfl
theorem chr_step (l : List Nat) (k : Nat) (h : k < l.length) : (l.reverse.take (k + 1)).map chr = (l.reverse.take k).map chr ++ [chr (l[l.length - 1 - k])] := by
  rw [List.take_add_one, List.getElem?_reverse h, List.getElem?_eq_getElem (by omega)]
  simp

set_option maxRecDepth 100000 in
theorem refText_any (neg : Bool) (x : Nat) (v : Value) (w : World) (hv : Rd encN w v (digs 10 x)) (hx : (digs 10 x).length ≤ 1000) :
    Calls Tryz.prog 52 #[.bool neg, v] w fun e w' => e = .returned (.tuple #[.string (ofI (sgn neg x)), .bool (decide (x < BIG))]) ∧ Below w.heap.size w w' := by
  by_cases h0 : x = 0
  · subst h0
    obtain ⟨a, c, rfl, hc, hc2, hcell⟩ := hv.open'
    rw [digs_zero] at hcell hc ⊢
    simp only [List.length_nil] at hcell hc ⊢
    have e1 : ofI (sgn neg 0) = ⟨#[48]⟩ := by cases neg <;> decide +kernel
    have e2 : decide (0 < BIG) = true := by decide +kernel
    rw [e1, e2]
    clear hcell hv hx e1 e2
    go_enter Tryz.func52, Tryz.ntmps52
    go_wp2
    go_ret2
    exact ⟨rfl, Below.refl _ _⟩
  · obtain ⟨a, c, rfl, hc, hc2, hcell⟩ := hv.open'
    have Hc := Lib.hid hcell; clear hcell
    have hnil : digs 10 x ≠ [] := fun e => h0 ((digs_eq_nil (by decide)).1 e)
    have e3 := digs_length_le (B := 10) (by decide) x 200
    obtain ⟨n, hn⟩ : ∃ n, (digs 10 x).length = n := ⟨_, rfl⟩
    have hn0 : 0 < n := by rw [← hn]; exact List.length_pos_iff.2 hnil
    have He : Hid (decide (x < BIG) = decide (n ≤ 200)) := by
      show decide (x < BIG) = decide (n ≤ 200)
      rw [← hn]; unfold BIG; rw [decide_eq_decide]; exact e3.symm
    have Hs := Lib.hid (ofI_sgn (neg := neg) h0)
    have Hn := Lib.hid hn
    rw [hn] at hc hx ⊢
    clear hn e3 hnil h0 hv
    have hc0 : ((n : Int) == 0) = false := by rw [beq_eq_false_iff_ne]; omega
    have key : ∀ (pre : List UInt8) (v0 : Value) (w0 : World) (j : Nat), pre.length ≤ 1 → OwnL encB 5 w0 w.heap.size v0 (pre ++ ((digs 10 x).reverse.take (n - j)).map chr) → (pre ++ ((digs 10 x).reverse.take (n - j)).map chr).length ≤ 2000 := by
      intro pre v0 w0 j h1 h2
      rw [List.length_append, List.length_map, List.length_take]; omega
    have Hkey := Lib.hid key; clear key
    cases neg
    · go_enter Tryz.func52, Tryz.ntmps52
      go_wp2
      go_loopw [6, 7] (fun out i wr => ∃ j : Nat, j ≤ n ∧ i = .int .i64 ((j : Int) - 1) ∧ OwnL encB 5 wr w.heap.size out (([] : List UInt8) ++ ((digs 10 x).reverse.take (n - j)).map chr) ∧ Below w.heap.size w wr) (fun _ i _ => (intOf i + 1).toNat)
      case atStart => exact ⟨n, Nat.le_refl _, rfl, by rw [Nat.sub_self]; exact OwnL.nil _ _, Below.refl _ _⟩
      case round =>
        obtain ⟨j, hj, rfl, hown, hB⟩ := hrel
        have hlen := Hkey.out [] _ _ j (by decide) hown
        cases j with
        | zero =>
          have hcv := runStr wr hown.rd
          rw [Nat.sub_zero, List.take_of_length_le (by rw [List.length_reverse, Hn.out]; exact Nat.le_refl _)] at hcv
          rw [show (⟨(([] : List UInt8) ++ (digs 10 x).reverse.map chr).toArray⟩ : ByteArray) = ofI (sgn false x) from Hs.out.symm] at hcv
          go_wp2
          go_ret2
          exact ⟨ret_pair rfl (by rw [He.out]; exact bool_eq (by omega)), hB⟩
        | succ m =>
          obtain ⟨b, off, rfl, hb, hc1⟩ := Hc.out m (by rw [Hn.out]; omega)
          have k1 := (hB.cell (p := ⟨b, off + m, none⟩) hb).trans hc1
          obtain ⟨d, ed⟩ : ∃ d, (digs 10 x)[m]'(by rw [Hn.out]; omega) = d := ⟨_, rfl⟩
          have hd : d < 10 := by rw [← ed]; exact digs_lt (by decide) x _ (List.getElem_mem _)
          rw [ed] at k1
          have Ed := Lib.hid ed
          clear hc1 ed
          have hbs := hB.size
          go_wp2_with (at_builtin; refine appB rfl _ _ rfl rfl (hown.alloc _) wr.heap.size 1 _ rfl (cell_new1 _ _ _) (chr d) (int_eq (by simp [chr]; omega)) (by omega) (by simp; omega) ?_; intro v' w1 hown1 hB1)
          go_roundw
          case rel =>
            refine ⟨m, by omega, by go_num, ?_, ((hB.alloc hB.size _).trans hB1)⟩
            have e := chr_step (digs 10 x) (n - (m + 1)) (by rw [Hn.out]; omega)
            rw [show n - (m + 1) + 1 = n - m by omega] at e
            rw [e, ← List.append_assoc]
            simpa only [Hn.out, show n - 1 - (n - (m + 1)) = m by omega, Ed.out] using hown1
          case measure => simp [intOf]
    · go_enter Tryz.func52, Tryz.ntmps52
      go_wp2_with (at_builtin; refine appB rfl _ _ rfl rfl ((OwnL.nil w w.heap.size).alloc _) w.heap.size 1 _ rfl (cell_new1 _ _ _) 45 (int_eq (by decide)) (by simp) (by simp) ?_; intro v0 w0 hown0 hB0)
      go_loopw [6, 7] (fun out i wr => ∃ j : Nat, j ≤ n ∧ i = .int .i64 ((j : Int) - 1) ∧ OwnL encB 5 wr w.heap.size out ([45] ++ ((digs 10 x).reverse.take (n - j)).map chr) ∧ Below w.heap.size w wr) (fun _ i _ => (intOf i + 1).toNat)
      case atStart => exact ⟨n, Nat.le_refl _, rfl, by rw [Nat.sub_self]; exact hown0, ((Below.refl _ _).alloc (Nat.le_refl _) _).trans hB0⟩
      case round =>
        obtain ⟨j, hj, rfl, hown, hB⟩ := hrel
        have hlen := Hkey.out [45] _ _ j (by decide) hown
        cases j with
        | zero =>
          have hcv := runStr wr hown.rd
          rw [Nat.sub_zero, List.take_of_length_le (by rw [List.length_reverse, Hn.out]; exact Nat.le_refl _)] at hcv
          rw [show (⟨(([45] : List UInt8) ++ (digs 10 x).reverse.map chr).toArray⟩ : ByteArray) = ofI (sgn true x) from Hs.out.symm] at hcv
          go_wp2
          go_ret2
          exact ⟨ret_pair rfl (by rw [He.out]; exact bool_eq (by omega)), hB⟩
        | succ m =>
          obtain ⟨b, off, rfl, hb, hc1⟩ := Hc.out m (by rw [Hn.out]; omega)
          have k1 := (hB.cell (p := ⟨b, off + m, none⟩) hb).trans hc1
          obtain ⟨d, ed⟩ : ∃ d, (digs 10 x)[m]'(by rw [Hn.out]; omega) = d := ⟨_, rfl⟩
          have hd : d < 10 := by rw [← ed]; exact digs_lt (by decide) x _ (List.getElem_mem _)
          rw [ed] at k1
          have Ed := Lib.hid ed
          clear hc1 ed
          have hbs := hB.size
          go_wp2_with (at_builtin; refine appB rfl _ _ rfl rfl (hown.alloc _) wr.heap.size 1 _ rfl (cell_new1 _ _ _) (chr d) (int_eq (by simp [chr]; omega)) (by omega) (by simp; omega) ?_; intro v' w1 hown1 hB1)
          go_roundw
          case rel =>
            refine ⟨m, by omega, by go_num, ?_, ((hB.alloc hB.size _).trans hB1)⟩
            have e := chr_step (digs 10 x) (n - (m + 1)) (by rw [Hn.out]; omega)
            rw [show n - (m + 1) + 1 = n - m by omega] at e
            rw [e, ← List.append_assoc]
            simpa only [Hn.out, show n - 1 - (n - (m + 1)) = m by omega, Ed.out] using hown1
          case measure => simp [intOf]
end Go.Proofs.YtgeoidnleagloaaGreatDoor
