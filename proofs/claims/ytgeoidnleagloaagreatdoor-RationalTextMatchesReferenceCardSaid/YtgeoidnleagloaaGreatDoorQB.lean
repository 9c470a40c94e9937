/- Walks of package rational: a calculation that stops at the first error. -/
import Derived.Test.YtgeoidnleagloaaGreatDoorQA
set_option linter.unusedVariables false
set_option linter.unusedSimpArgs false
namespace Go.Proofs.YtgeoidnleagloaaGreatDoor
open Go.RowKit Yk

/-- What a step of a calculation gives: a text, and whether it has failed. -/
def doF (bad : Bool) (r : SE) : ByteArray × Bool := if bad then (ByteArray.empty, true) else (r.1, r.2 != 0)
/-- The calculation in block b. -/
abbrev Wk (w : World) (b : Nat) (bad : Bool) : Prop := Blk w b #[.bool bad] 78
theorem grown_of_below {w w' : World} (h : Below w.heap.size w w') (row : Option Nat) : w.grownBy w' row := ⟨h.os, h.tape, h.output, h.size, fun k hk _ => h.block k hk⟩
theorem grown_set {w w' : World} {b : Nat} (h : w.grownBy w' (some b)) (u : Value) : w.grownBy (w'.setCell ⟨b, 0, none⟩ u) (some b) := h.trans (grownBy_setCell' w' b u)
theorem Blk.other {w w' : World} {b c : Nat} {cs : Array Value} {t : TypeId} (h : Blk w c cs t) (hg : w.grownBy w' (some b)) (hne : c ≠ b) : Blk w' c cs t := (hg.block c h.lt (fun e => hne (by cases e; rfl))).trans h
theorem below_of_grown {w w' : World} {b B : Nat} (h : w.grownBy w' (some b)) (hB : B ≤ b) (hw : B ≤ w.heap.size) : Below B w w' := ⟨h.os, h.tape, h.output, h.size, fun k hk => h.block k (by omega) (fun e => by cases e; omega)⟩
/-- A block that is no package-level variable. -/
def AboveG (b : Nat) : Prop := 0 < b ∧ 1 < b
theorem Glob.above {w : World} (h : Glob w) {b : Nat} (hb : w.heap.size ≤ b) : AboveG b := by
  obtain ⟨⟨m, h1⟩, _, h3⟩ := h
  have := World.block_lt_of_cell? w _ h1
  exact ⟨Nat.lt_of_lt_of_le this hb, Nat.lt_of_lt_of_le h3 hb⟩
theorem Glob.grown {w w' : World} {b : Nat} (h : Glob w) (hg : w.grownBy w' (some b)) (hb : AboveG b) : Glob w' := by
  obtain ⟨⟨m, h1⟩, h2, h3⟩ := h
  have hB : ∀ k, k < b → Below (min b w.heap.size) w w' := fun k hk => below_of_grown hg (Nat.min_le_left _ _) (Nat.min_le_right _ _)
  have hb1 := hB _ hb.1
  have hlt := World.block_lt_of_cell? w _ h1
  refine ⟨⟨m, ?_⟩, var?_below hb1 gPow (Nat.lt_min.2 ⟨hb.2, h3⟩) h2, Nat.lt_of_lt_of_le h3 hg.size⟩
  rw [hb1.cell (p := ⟨0, 0, none⟩) (Nat.lt_min.2 ⟨hb.1, hlt⟩)]
  exact h1

/-- A step's post. -/
def DoPost (w : World) (b : Nat) (r : ByteArray × Bool) (e : Ending) (w' : World) : Prop := e = .returned (.string r.1) ∧ Wk w' b r.2 ∧ w.grownBy w' (some b)
/-- A function of two texts that gives a text and an error. -/
def OpF (gf : Nat) (f : ByteArray → ByteArray → SE) : Prop :=
  (∀ args w, (callFunc gf args).run Tryz.prog w = .ok (.enter gf args) w) ∧
  ∀ x y w, Glob w → x.size ≤ maxLen → y.size ≤ maxLen → Calls Tryz.prog gf #[.string x, .string y] w fun e w' => e = .returned (.tuple #[.string (f x y).1, .int .i64 (f x y).2]) ∧ Below w.heap.size w w'
theorem opAdd : OpF 62 iAdd := ⟨enters_of Tryz.func62 (by kernel_rfl) rfl, fun x y w hg hx hy => intAdd_any x y w hg hx hy⟩
theorem opSub : OpF 73 iSub := ⟨enters_of Tryz.func73 (by kernel_rfl) rfl, fun x y w hg hx hy => intSub_any x y w hg hx hy⟩
theorem opMul : OpF 89 iMul := ⟨enters_of Tryz.func89 (by kernel_rfl) rfl, fun x y w hg hx hy => intMul_any x y w hg hx hy⟩
theorem opGcd : OpF 51 iGcd := ⟨enters_of Tryz.func51 (by kernel_rfl) rfl, fun x y w hg hx hy => intGcd_any x y w hg hx hy⟩
/-- The quotient alone. -/
def iQuo (a b : ByteArray) : SE := ((iDiv a b).1, (iDiv a b).2.2)
set_option maxRecDepth 100000 in
theorem quo1_any (x y : ByteArray) (w : World) (hg : Glob w) (hx : x.size ≤ maxLen) (hy : y.size ≤ maxLen) :
    Calls Tryz.prog 111 #[.string x, .string y] w fun e w' => e = .returned (.tuple #[.string (iQuo x y).1, .int .i64 (iQuo x y).2]) ∧ Below w.heap.size w w' := by
  have H := Lib.hid (intDiv_any x y w hg hx hy)
  unfold iQuo
  generalize iDiv x y = r at *
  clear hg hx hy
  go_enter Tryz.func111, Tryz.ntmps111
  go_wp2_with fail
  (with_reducible refine (H.out).mono ?_); rintro e w1 ⟨rfl, hb1⟩
  have HB := Lib.hid hb1
  clear hb1
  go_wp2
  go_ret2
  exact ⟨rfl, HB.out⟩
theorem opQuo : OpF 111 iQuo := ⟨enters_of Tryz.func111 (by kernel_rfl) rfl, fun x y w hg hx hy => quo1_any x y w hg hx hy⟩

set_option maxRecDepth 100000 in
theorem do_any (gf : Nat) (f : ByteArray → ByteArray → SE) (hop : OpF gf f) (x y : ByteArray) (b : Nat) (bad : Bool) (w : World) (hw : Wk w b bad) (hg : bad = false → Glob w) (hx : x.size ≤ maxLen) (hy : y.size ≤ maxLen) :
    Calls Tryz.prog 84 #[.pointer (some ⟨b, 0, none⟩), .func (.func gf) #[] #[], .string x, .string y] w (DoPost w b (doF bad (f x y))) := by
  obtain ⟨eg, hop⟩ := hop
  cases bad with
  | true =>
    obtain ⟨c1, c2, _⟩ := blk1 hw
    have HW := Lib.hid hw
    clear hw hg hx hy hop
    go_enter Tryz.func84, Tryz.ntmps84
    go_wp2
    go_ret
    exact ⟨rfl, HW.out, World.grownBy.refl _ _⟩
  | false =>
    have H := Lib.hid (hop x y w (hg rfl) hx hy)
    obtain ⟨r, hr⟩ : ∃ r, f x y = r := ⟨_, rfl⟩
    rw [hr] at H ⊢
    obtain ⟨c1, c2, _⟩ := blk1 hw
    have HW := Lib.hid hw
    clear hw hg hx hy hop hr
    go_enter Tryz.func84, Tryz.ntmps84
    go_wp2_with fail
    (with_reducible refine (H.out).mono ?_); rintro e w1 ⟨rfl, hb1⟩
    have HW1 := Lib.hid (Blk.below HW.out hb1 HW.out.lt)
    obtain ⟨d1, d2, _⟩ := blk1 HW1.out
    have HB := Lib.hid (grown_of_below hb1 (some b))
    clear hb1
    go_wp2
    go_ret
    refine ⟨rfl, ?_, grown_set HB.out _⟩
    exact HW1.out.set 0 (.bool (r.2 != 0))
set_option maxRecDepth 100000 in
theorem mul_any (x y : ByteArray) (b : Nat) (bad : Bool) (w : World) (hw : Wk w b bad) (hg : bad = false → Glob w) (hx : x.size ≤ maxLen) (hy : y.size ≤ maxLen) :
    Calls Tryz.prog 60 #[.pointer (some ⟨b, 0, none⟩), .string x, .string y] w (DoPost w b (doF bad (iMul x y))) := by
  have H := Lib.hid (do_any _ _ opMul x y b bad w hw hg hx hy)
  generalize doF bad (iMul x y) = r at *
  clear hw hg hx hy
  go_enter Tryz.func60, Tryz.ntmps60
  go_wp2_with fail
  (with_reducible refine (H.out).mono ?_); rintro e w1 ⟨rfl, h1, h2⟩
  have H1 := Lib.hid h1
  have H2 := Lib.hid h2
  clear h1 h2
  go_wp2
  go_ret
  exact ⟨rfl, H1.out, H2.out⟩
set_option maxRecDepth 100000 in
theorem quotient_any (x y : ByteArray) (b : Nat) (bad : Bool) (w : World) (hw : Wk w b bad) (hg : bad = false → Glob w) (hx : x.size ≤ maxLen) (hy : y.size ≤ maxLen) :
    Calls Tryz.prog 85 #[.pointer (some ⟨b, 0, none⟩), .string x, .string y] w (DoPost w b (doF bad (iQuo x y))) := by
  have H := Lib.hid (do_any _ _ opQuo x y b bad w hw hg hx hy)
  generalize doF bad (iQuo x y) = r at *
  clear hw hg hx hy
  go_enter Tryz.func85, Tryz.ntmps85
  go_wp2_with fail
  (with_reducible refine (H.out).mono ?_); rintro e w1 ⟨rfl, h1, h2⟩
  have H1 := Lib.hid h1
  have H2 := Lib.hid h2
  clear h1 h2
  go_wp2
  go_ret
  exact ⟨rfl, H1.out, H2.out⟩

/-- A slice of fractions, in block sb, reads as l. -/
def RdR (w : World) (sb : Nat) (l : List RS) : Prop := sb < w.heap.size ∧ ∀ (j : Nat) (r : RS), l[j]? = some r → w.cell? ⟨sb, j * 2, none⟩ = some (.string r.1) ∧ w.cell? ⟨sb, j * 2 + 1, none⟩ = some (.string r.2)
/-- What a round of 'check' keeps. -/
def ChkRel (l : List RS) (b : Nat) (bad : Bool) (w : World) (iv : Value) (wr : World) : Prop :=
  ∃ k : Nat, iv = .int .i64 (k : Int) ∧ k ≤ l.length ∧ Wk wr b (bad || (l.take k).any (fun r => !rV r)) ∧ w.grownBy wr (some b)
theorem any_take_succ {l : List RS} {k : Nat} {r : RS} (h : l[k]? = some r) (p : RS → Bool) : (l.take (k + 1)).any p = ((l.take k).any p || p r) := by
  rw [List.take_add_one, h]; simp
set_option maxRecDepth 100000 in
set_option maxHeartbeats 1000000 in
theorem check_any (l : List RS) (sb cap : Nat) (b : Nat) (bad : Bool) (w : World) (hw : Wk w b bad) (hs : RdR w sb l) (hne : sb ≠ b) (hl : l.length ≤ 1000) (hg : Glob w) (hb : AboveG b) (hsz : ∀ r ∈ l, r.1.size ≤ maxLen ∧ r.2.size ≤ maxLen) :
    Calls Tryz.prog 59 #[.pointer (some ⟨b, 0, none⟩), .slice (some ⟨sb, 0, none⟩) l.length cap] w fun e w' => e = .returned (.tuple #[]) ∧ Wk w' b (bad || l.any (fun r => !rV r)) ∧ w.grownBy w' (some b) := by
  have HS := Lib.hid hs
  have HW := Lib.hid hw
  have Hg := Lib.hid hg
  have Hb := Lib.hid hb
  have Hsz := Lib.hid hsz
  obtain ⟨n, hn⟩ : ∃ n, l.length = n := ⟨_, rfl⟩
  rw [hn] at hl ⊢
  have Hn := Lib.hid hn
  clear hs hw hg hb hsz hn
  go_enter Tryz.func59, Tryz.ntmps59
  go_wp2
  go_loopw [8] (fun iv wr => ChkRel l b bad w iv wr) (fun iv _ => (n - (intOf iv).toNat))
  case atStart => exact ⟨0, rfl, Nat.zero_le _, by simpa using HW.out, World.grownBy.refl _ _⟩
  case round =>
    obtain ⟨k, rfl, hk, hwk, hgr⟩ := hrel
    rw [Hn.out] at hk
    by_cases hlt : k < n
    · obtain ⟨⟨rn, rd⟩, hr⟩ : ∃ r, l[k]? = some r := ⟨_, List.getElem?_eq_getElem (by rw [Hn.out]; exact hlt)⟩
      obtain ⟨k1, k2⟩ := HS.out.2 k _ hr
      have hz := Hsz.out _ (List.mem_of_getElem? hr)
      have m1 := (World.cell?_of_block (a := ⟨sb, k * 2, none⟩) (hgr.block sb HS.out.1 (fun e => hne (by cases e; rfl)))).trans k1
      have m2 := (World.cell?_of_block (a := ⟨sb, k * 2 + 1, none⟩) (hgr.block sb HS.out.1 (fun e => hne (by cases e; rfl)))).trans k2
      have Hat := Lib.hid (any_take_succ hr (fun r => !rV r))
      have Hgr := Lib.hid hgr
      have HWk := Lib.hid hwk
      have Hz := Lib.hid hz
      have hws := hgr.size
      obtain ⟨cb, hcb⟩ : ∃ c, (bad || (l.take k).any (fun r => !rV r)) = c := ⟨_, rfl⟩
      rw [hcb] at HWk
      have Hcb := Lib.hid hcb
      obtain ⟨d1, d2, d3⟩ := blk1 HWk.out
      simp only at m1 m2
      clear hr k1 k2 hz hgr hwk hcb
      have HG := Lib.hid ((Hg.out.grown Hgr.out Hb.out).below ((Below.refl _ wr).alloc (Nat.le_refl _) (.cells #[.string rn, .string rd] 23)))
      have hA : wr.grownBy (wr.alloc (.cells #[.string rn, .string rd] 23)) (some b) := World.grownBy_alloc wr _ _
      have HA := Lib.hid hA
      have HWA := Lib.hid (Blk.alloc HWk.out (.cells #[.string rn, .string rd] 23))
      clear hA
      cases cb with
      | true =>
        go_wp2
        go_roundw
        case rel =>
          refine ⟨k + 1, by go_num, by rw [Hn.out]; omega, ?_, (grown_set Hgr.out _).trans (World.grownBy_alloc _ _ _)⟩
          rw [Hat.out, ← Bool.or_assoc, Hcb.out, Bool.true_or]
          exact Blk.alloc (Blk.set HWk.out 0 (.bool true)) _
        case measure => simp [intOf]; omega
      | false =>
        go_wp2_with fail
        refine (ratValid_any (rn, rd) _ HG.out Hz.out.1 Hz.out.2).mono ?_
        rintro e w2 ⟨rfl, hb2⟩
        have HW2 := Lib.hid (HWA.out.below hb2 HWA.out.lt)
        have HG2 := Lib.hid ((Hgr.out.trans HA.out).trans (grown_of_below hb2 (some b)))
        obtain ⟨f1, f2, f3⟩ := blk1 HW2.out
        clear hb2
        go_wp2
        go_roundw
        case rel =>
          refine ⟨k + 1, by go_num, by rw [Hn.out]; omega, ?_, grown_set HG2.out _⟩
          rw [Hat.out, ← Bool.or_assoc, Hcb.out, Bool.false_or]
          exact HW2.out.set 0 (.bool (!rV (rn, rd)))
        case measure => simp [intOf]; omega
    · obtain rfl : k = n := by omega
      go_wp2
      go_end0
      refine ⟨rfl, ?_, hgr⟩
      rw [← Hn.out, List.take_length] at hwk
      exact hwk
end Go.Proofs.YtgeoidnleagloaaGreatDoor
