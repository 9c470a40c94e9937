/- Aids for the claim. -/
import Derived.Test.YtnfamgpjehohaaaGreatDoorXc
import Derived.Deep.RegionHeld3
import Derived.Lib.IndexMore
import Derived.WalkMore
import Derived.ScopeJumps
import Derived.StillTailTactics
import Derived.Deep.QuietTactic
import Derived.BigQuiet
set_option linter.unusedVariables false
set_option linter.unusedSimpArgs false
namespace Go.Proofs.YtnfamgpjehohaaaGreatDoor
open Go.RowKit Yk
def doF (bad : Bool) (r : SE) : ByteArray × Bool := if bad then (ByteArray.empty, true) else (r.1, r.2 != 0)
abbrev Wk (w : World) (b : Nat) (bad : Bool) : Prop := Blk w b #[.bool bad] 110
theorem grown_of_below {w w' : World} (h : Below w.heap.size w w') (row : Option Nat) : w.grownBy w' row := ⟨h.os, h.tape, h.output, h.size, fun k hk _ => h.block k hk⟩
theorem grown_set {w w' : World} {b : Nat} (h : w.grownBy w' (some b)) (u : Value) : w.grownBy (w'.setCell ⟨b, 0, none⟩ u) (some b) := h.trans (grownBy_setCell' w' b u)
theorem Blk.other {w w' : World} {b c : Nat} {cs : Array Value} {t : TypeId} (h : Blk w c cs t) (hg : w.grownBy w' (some b)) (hne : c ≠ b) : Blk w' c cs t := (hg.block c h.lt (fun e => hne (by cases e; rfl))).trans h
theorem below_of_grown {w w' : World} {b B : Nat} (h : w.grownBy w' (some b)) (hB : B ≤ b) (hw : B ≤ w.heap.size) : Below B w w' := ⟨h.os, h.tape, h.output, h.size, fun k hk => h.block k (by omega) (fun e => by cases e; omega)⟩
def AboveG (b : Nat) : Prop := 0 < b ∧ 1 < b
theorem Glob.above {w : World} (h : Glob w) {b : Nat} (hb : w.heap.size ≤ b) : AboveG b := by
 obtain ⟨⟨m, h1⟩, _, h3⟩ := h
 have := World.block_lt_of_cell? w _ h1
 exact ⟨Nat.lt_of_lt_of_le this hb, Nat.lt_of_lt_of_le h3 hb⟩
theorem Glob.grown {w w' : World} {b : Nat} (h : Glob w) (hg : w.grownBy w' (some b)) (hb : AboveG b) : Glob w' := by
 obtain ⟨⟨m, h1⟩, h2, h3⟩ := h
 have hB : ∀ k, k < b → Below (min b w.heap.size) w w' := fun k hk => below_of_grown hg (Nat.min_le_left _ _) (Nat.min_le_right _ _)
 have hb1 := hB _ hb.1
 have hlt := World.block_lt_of_cell? w _ h1
 refine ⟨⟨m, ?_⟩, var?_below hb1 gPow (Nat.lt_min.2 ⟨hb.2, h3⟩) h2, Nat.lt_of_lt_of_le h3 hg.size⟩
 rw [hb1.cell (p := ⟨0, 0, none⟩) (Nat.lt_min.2 ⟨hb.1, hlt⟩)]
 exact h1
def DoPost (w : World) (b : Nat) (r : ByteArray × Bool) (e : Ending) (w' : World) : Prop := e = .returned (.string r.1) ∧ Wk w' b r.2 ∧ w.grownBy w' (some b)
def OpF (gf : Nat) (f : ByteArray → ByteArray → SE) : Prop :=
 (∀ args w, (callFunc gf args).run Tryz.prog w = .ok (.enter gf args) w) ∧
 ∀ x y w, Glob w → x.size ≤ maxLen → y.size ≤ maxLen → Calls Tryz.prog gf #[.string x, .string y] w fun e w' => e = .returned (.tuple #[.string (f x y).1, .int .i64 (f x y).2]) ∧ Below w.heap.size w w'
theorem opAdd : OpF 99 iAdd := ⟨enters_of Tryz.func99 (by kernel_rfl) rfl, fun x y w hg hx hy => intAdd_any x y w hg hx hy⟩
theorem opSub : OpF 100 iSub := ⟨enters_of Tryz.func100 (by kernel_rfl) rfl, fun x y w hg hx hy => intSub_any x y w hg hx hy⟩
theorem opMul : OpF 122 iMul := ⟨enters_of Tryz.func122 (by kernel_rfl) rfl, fun x y w hg hx hy => intMul_any x y w hg hx hy⟩
theorem opGcd : OpF 106 iGcd := ⟨enters_of Tryz.func106 (by kernel_rfl) rfl, fun x y w hg hx hy => intGcd_any x y w hg hx hy⟩
def iQuo (a b : ByteArray) : SE := ((iDiv a b).1, (iDiv a b).2.2)
set_option maxRecDepth 100000 in
theorem quo1_any (x y : ByteArray) (w : World) (hg : Glob w) (hx : x.size ≤ maxLen) (hy : y.size ≤ maxLen) :
 Calls Tryz.prog 151 #[.string x, .string y] w fun e w' => e = .returned (.tuple #[.string (iQuo x y).1, .int .i64 (iQuo x y).2]) ∧ Below w.heap.size w w' := by
 have H := Lib.hid (intDiv_any x y w hg hx hy)
 unfold iQuo
 generalize iDiv x y = r at *
 clear hg hx hy
 go_enter Tryz.func151, Tryz.ntmps151
 go_wp2_with fail
 (with_reducible refine (H.out).mono ?_); rintro e w1 ⟨rfl, hb1⟩
 have HB := Lib.hid hb1
 clear hb1
 go_wp2
 go_ret2
 exact ⟨rfl, HB.out⟩
theorem opQuo : OpF 151 iQuo := ⟨enters_of Tryz.func151 (by kernel_rfl) rfl, fun x y w hg hx hy => quo1_any x y w hg hx hy⟩
set_option maxRecDepth 100000 in
theorem do_any (gf : Nat) (f : ByteArray → ByteArray → SE) (hop : OpF gf f) (x y : ByteArray) (b : Nat) (bad : Bool) (w : World) (hw : Wk w b bad) (hg : bad = false → Glob w) (hx : x.size ≤ maxLen) (hy : y.size ≤ maxLen) :
 Calls Tryz.prog 121 #[.pointer (some ⟨b, 0, none⟩), .func (.func gf) #[] #[], .string x, .string y] w (DoPost w b (doF bad (f x y))) := by
 obtain ⟨eg, hop⟩ := hop
 cases bad with
 | true =>
   obtain ⟨c1, c2, _⟩ := blk1 hw
   have HW := Lib.hid hw
   clear hw hg hx hy hop
   go_enter Tryz.func121, Tryz.ntmps121
   go_wp2
   go_ret
   exact ⟨rfl, HW.out, World.grownBy.refl _ _⟩
 | false =>
   have H := Lib.hid (hop x y w (hg rfl) hx hy)
   obtain ⟨r, hr⟩ : ∃ r, f x y = r := ⟨_, rfl⟩
   rw [hr] at H ⊢
   obtain ⟨c1, c2, _⟩ := blk1 hw
   have HW := Lib.hid hw
   clear hw hg hx hy hop hr
   go_enter Tryz.func121, Tryz.ntmps121
   go_wp2_with fail
   (with_reducible refine (H.out).mono ?_); rintro e w1 ⟨rfl, hb1⟩
   have HW1 := Lib.hid (Blk.below HW.out hb1 HW.out.lt)
   obtain ⟨d1, d2, _⟩ := blk1 HW1.out
   have HB := Lib.hid (grown_of_below hb1 (some b))
   clear hb1
   go_wp2
   go_ret
   refine ⟨rfl, ?_, grown_set HB.out _⟩
   exact HW1.out.set 0 (.bool (r.2 != 0))
set_option maxRecDepth 100000 in
theorem mul_any (x y : ByteArray) (b : Nat) (bad : Bool) (w : World) (hw : Wk w b bad) (hg : bad = false → Glob w) (hx : x.size ≤ maxLen) (hy : y.size ≤ maxLen) :
 Calls Tryz.prog 93 #[.pointer (some ⟨b, 0, none⟩), .string x, .string y] w (DoPost w b (doF bad (iMul x y))) := by
 have H := Lib.hid (do_any _ _ opMul x y b bad w hw hg hx hy)
 generalize doF bad (iMul x y) = r at *
 clear hw hg hx hy
 go_enter Tryz.func93, Tryz.ntmps93
 go_wp2_with fail
 (with_reducible refine (H.out).mono ?_); rintro e w1 ⟨rfl, h1, h2⟩
 have H1 := Lib.hid h1
 have H2 := Lib.hid h2
 clear h1 h2
 go_wp2
 go_ret
 exact ⟨rfl, H1.out, H2.out⟩
set_option maxRecDepth 100000 in
theorem quotient_any (x y : ByteArray) (b : Nat) (bad : Bool) (w : World) (hw : Wk w b bad) (hg : bad = false → Glob w) (hx : x.size ≤ maxLen) (hy : y.size ≤ maxLen) :
 Calls Tryz.prog 123 #[.pointer (some ⟨b, 0, none⟩), .string x, .string y] w (DoPost w b (doF bad (iQuo x y))) := by
 have H := Lib.hid (do_any _ _ opQuo x y b bad w hw hg hx hy)
 generalize doF bad (iQuo x y) = r at *
 clear hw hg hx hy
 go_enter Tryz.func123, Tryz.ntmps123
 go_wp2_with fail
 (with_reducible refine (H.out).mono ?_); rintro e w1 ⟨rfl, h1, h2⟩
 have H1 := Lib.hid h1
 have H2 := Lib.hid h2
 clear h1 h2
 go_wp2
 go_ret
 exact ⟨rfl, H1.out, H2.out⟩
def RdR (w : World) (sb : Nat) (l : List RS) : Prop := sb < w.heap.size ∧ ∀ (j : Nat) (r : RS), l[j]? = some r → w.cell? ⟨sb, j * 2, none⟩ = some (.string r.1) ∧ w.cell? ⟨sb, j * 2 + 1, none⟩ = some (.string r.2)
def ChkRel (l : List RS) (b : Nat) (bad : Bool) (w : World) (iv : Value) (wr : World) : Prop :=
 ∃ k : Nat, iv = .int .i64 (k : Int) ∧ k ≤ l.length ∧ Wk wr b (bad || (l.take k).any (fun r => !rV r)) ∧ w.grownBy wr (some b)
theorem any_take_succ {l : List RS} {k : Nat} {r : RS} (h : l[k]? = some r) (p : RS → Bool) : (l.take (k + 1)).any p = ((l.take k).any p || p r) := by
 rw [List.take_add_one, h]; simp
set_option maxRecDepth 100000 in
set_option maxHeartbeats 1000000 in
theorem check_any (l : List RS) (sb cap : Nat) (b : Nat) (bad : Bool) (w : World) (hw : Wk w b bad) (hs : RdR w sb l) (hne : sb ≠ b) (hl : l.length ≤ 1000) (hg : Glob w) (hb : AboveG b) (hsz : ∀ r ∈ l, r.1.size ≤ maxLen ∧ r.2.size ≤ maxLen) :
 Calls Tryz.prog 92 #[.pointer (some ⟨b, 0, none⟩), .slice (some ⟨sb, 0, none⟩) l.length cap] w fun e w' => e = .returned (.tuple #[]) ∧ Wk w' b (bad || l.any (fun r => !rV r)) ∧ w.grownBy w' (some b) := by
 have HS := Lib.hid hs
 have HW := Lib.hid hw
 have Hg := Lib.hid hg
 have Hb := Lib.hid hb
 have Hsz := Lib.hid hsz
 obtain ⟨n, hn⟩ : ∃ n, l.length = n := ⟨_, rfl⟩
 rw [hn] at hl ⊢
 have Hn := Lib.hid hn
 clear hs hw hg hb hsz hn
 go_enter Tryz.func92, Tryz.ntmps92
 go_wp2
 go_loopw [8] (fun iv wr => ChkRel l b bad w iv wr) (fun iv _ => (n - (intOf iv).toNat))
 case atStart => exact ⟨0, rfl, Nat.zero_le _, by simpa using HW.out, World.grownBy.refl _ _⟩
 case round =>
  obtain ⟨k, rfl, hk, hwk, hgr⟩ := hrel
  rw [Hn.out] at hk
  by_cases hlt : k < n
  · obtain ⟨⟨rn, rd⟩, hr⟩ : ∃ r, l[k]? = some r := ⟨_, List.getElem?_eq_getElem (by rw [Hn.out]; exact hlt)⟩
    obtain ⟨k1, k2⟩ := HS.out.2 k _ hr
    have hz := Hsz.out _ (List.mem_of_getElem? hr)
    have m1 := (World.cell?_of_block (a := ⟨sb, k * 2, none⟩) (hgr.block sb HS.out.1 (fun e => hne (by cases e; rfl)))).trans k1
    have m2 := (World.cell?_of_block (a := ⟨sb, k * 2 + 1, none⟩) (hgr.block sb HS.out.1 (fun e => hne (by cases e; rfl)))).trans k2
    have Hat := Lib.hid (any_take_succ hr (fun r => !rV r))
    have Hgr := Lib.hid hgr
    have HWk := Lib.hid hwk
    have Hz := Lib.hid hz
    have hws := hgr.size
    obtain ⟨cb, hcb⟩ : ∃ c, (bad || (l.take k).any (fun r => !rV r)) = c := ⟨_, rfl⟩
    rw [hcb] at HWk
    have Hcb := Lib.hid hcb
    obtain ⟨d1, d2, d3⟩ := blk1 HWk.out
    simp only at m1 m2
    clear hr k1 k2 hz hgr hwk hcb
    have HG := Lib.hid ((Hg.out.grown Hgr.out Hb.out).below ((Below.refl _ wr).alloc (Nat.le_refl _) (.cells #[.string rn, .string rd] 26)))
    have hA : wr.grownBy (wr.alloc (.cells #[.string rn, .string rd] 26)) (some b) := World.grownBy_alloc wr _ _
    have HA := Lib.hid hA
    have HWA := Lib.hid (Blk.alloc HWk.out (.cells #[.string rn, .string rd] 26))
    clear hA
    cases cb with
    | true =>
      go_wp2
      go_roundw
      case rel =>
       refine ⟨k + 1, by go_num, by rw [Hn.out]; omega, ?_, (grown_set Hgr.out _).trans (World.grownBy_alloc _ _ _)⟩
       rw [Hat.out, ← Bool.or_assoc, Hcb.out, Bool.true_or]
       exact Blk.alloc (Blk.set HWk.out 0 (.bool true)) _
      case measure => simp [intOf]; omega
    | false =>
      go_wp2_with fail
      refine (ratValid_any (rn, rd) _ HG.out Hz.out.1 Hz.out.2).mono ?_
      rintro e w2 ⟨rfl, hb2⟩
      have HW2 := Lib.hid (HWA.out.below hb2 HWA.out.lt)
      have HG2 := Lib.hid ((Hgr.out.trans HA.out).trans (grown_of_below hb2 (some b)))
      obtain ⟨f1, f2, f3⟩ := blk1 HW2.out
      clear hb2
      go_wp2
      go_roundw
      case rel =>
       refine ⟨k + 1, by go_num, by rw [Hn.out]; omega, ?_, grown_set HG2.out _⟩
       rw [Hat.out, ← Bool.or_assoc, Hcb.out, Bool.false_or]
       exact HW2.out.set 0 (.bool (!rV (rn, rd)))
      case measure => simp [intOf]; omega
  · obtain rfl : k = n := by omega
    go_wp2
    go_end0
    refine ⟨rfl, ?_, hgr⟩
    rw [← Hn.out, List.take_length] at hwk
    exact hwk
theorem chkI_fits {s : Int} (h : small s = true) : chkI s = (ofI s, 0) := chkI_ok (small_iff.1 h)
theorem do_neg {n : ByteArray} (h : vS n = true) : doF false (iSub ⟨#[48]⟩ n) = (ofI (-nS n), false) := by
 have e : iSub ⟨#[48]⟩ n = (ofI (-nS n), 0) := by
  unfold iSub
  rw [if_pos (by simp [h, vS_zero]), nS_zero', Int.zero_sub, chkI_ok (by rw [Int.natAbs_neg]; exact nS_lt h)]
 unfold doF; rw [e]; rfl
theorem do_gcd {a b : ByteArray} (ha : vS a = true) (hb : vS b = true) : doF false (iGcd a b) = (ofI (Int.gcd (nS a) (nS b)), false) := by
 have e : iGcd a b = (ofI (Int.gcd (nS a) (nS b)), 0) := by unfold iGcd; rw [if_pos (by simp [ha, hb])]
 unfold doF; rw [e]; rfl
theorem do_quo {a b : ByteArray} (ha : vS a = true) (hb : vS b = true) (h0 : nS b ≠ 0) : doF false (iQuo a b) = (ofI (nS a / nS b), false) := by
 unfold doF iQuo
 rw [iDivYes ha hb h0]; rfl
def redF (bad : Bool) (n d : ByteArray) : RS × Int := if bad then (noR, 40) else rMake n d
theorem red_pos {n d : ByteArray} (hn : vS n = true) (hd : vS d = true) (h : 0 < nS d) : redF false n d = ((ofI (nS n / (Int.gcd (nS n) (nS d) : Int)), ofI (nS d / (Int.gcd (nS n) (nS d) : Int))), 0) := by
 unfold redF rMake
 rw [if_neg (by simp), if_pos (by simp [hn, hd]; omega)]
 obtain ⟨e1, e2⟩ := divInt_pos_num (n := nS n) h
 unfold rT
 rw [e1, e2]
theorem red_neg {n d : ByteArray} (hn : vS n = true) (hd : vS d = true) (h : nS d < 0) : redF false n d = ((ofI (-nS n / (Int.gcd (-nS n) (-nS d) : Int)), ofI (-nS d / (Int.gcd (-nS n) (-nS d) : Int))), 0) := by
 unfold redF rMake
 rw [if_neg (by simp), if_pos (by simp [hn, hd]; omega)]
 obtain ⟨e1, e2⟩ := divInt_pos_num (n := -nS n) (d := -nS d) (by omega)
 unfold rT
 rw [← e1, ← e2, Rat.neg_divInt_neg]
theorem gcd_vS {a b : Int} (ha : a.natAbs < BIG) (hb : b.natAbs < BIG) : vS (ofI (Int.gcd a b : Int)) = true := vS_ofI (by rw [Int.natAbs_natCast]; exact gcd_lt ha hb)
theorem size_vS {s : ByteArray} (h : vS s = true) : s.size ≤ maxLen := by have := vS_size h; unfold maxLen; omega
theorem grown_setNew {w w' : World} {row : Option Nat} (h : w.grownBy w' row) {a : Addr} (ha : w.heap.size ≤ a.block) (u : Value) : w.grownBy (w'.setCell a u) row :=
 ⟨h.os, h.tape, h.output, by simpa [World.setCell] using h.size, fun k hk hr => (Below.heap_setCell _ _ _ _ (by omega)).trans (h.block k hk hr)⟩
def RedPost (w : World) (b : Nat) (r : RS × Int) (e : Ending) (w' : World) : Prop := e = .returned (vRE r) ∧ w.grownBy w' (some b)
set_option maxRecDepth 100000 in
theorem reduced_bad (n d : ByteArray) (b : Nat) (w : World) (hw : Wk w b true) : Calls Tryz.prog 94 #[.pointer (some ⟨b, 0, none⟩), .string n, .string d] w (RedPost w b (noR, 40)) := by
 obtain ⟨c1, c2, c3⟩ := blk1 hw
 clear hw
 go_enter Tryz.func94, Tryz.ntmps94
 go_wp2
 refine bodyPost_ret (v := vRE (noR, 40)) (by simp [results, Tryz.results94, go_sem, noR]; rfl) rfl ⟨rfl, ?_⟩
 exact World.grownBy_alloc w _ _
set_option maxRecDepth 100000 in
theorem reduced_zero (n d : ByteArray) (hd : vS d = true) (h0 : nS d = 0) (b : Nat) (w : World) (hw : Wk w b false) : Calls Tryz.prog 94 #[.pointer (some ⟨b, 0, none⟩), .string n, .string d] w (RedPost w b (noR, 40)) := by
 obtain ⟨c1, c2, c3⟩ := blk1 hw
 have c4 : (d.toList == [48]) = true := by rw [eq48 hd]; simp [h0]
 clear hw hd h0
 go_enter Tryz.func94, Tryz.ntmps94
 go_wp2
 refine bodyPost_ret (v := vRE (noR, 40)) (by simp [results, Tryz.results94, go_sem, noR]; rfl) rfl ⟨rfl, ?_⟩
 exact World.grownBy_alloc w _ _
set_option maxRecDepth 100000 in
set_option maxHeartbeats 1000000 in
theorem reduced_pos (n d : ByteArray) (hn : vS n = true) (hd : vS d = true) (h0 : 0 < nS d) (b : Nat) (w : World) (hw : Wk w b false) (hg : Glob w) (hb : AboveG b) : Calls Tryz.prog 94 #[.pointer (some ⟨b, 0, none⟩), .string n, .string d] w (RedPost w b (redF false n d)) := by
 rw [red_pos hn hd h0]
 obtain ⟨c1, c2, c3⟩ := blk1 hw
 have c4 : (d.toList == [48]) = false := by rw [eq48 hd]; simp; omega
 have H3 := Lib.hid (fun w => intCompare_any d ⟨#[48]⟩ w (size_vS hd) (by decide))
 rw [iCmp_zero hd] at H3
 obtain ⟨cv, hcv⟩ : ∃ c, cmpI (nS d) 0 = c := ⟨_, rfl⟩
 rw [hcv] at H3
 have hc : ¬ cv < 0 := by { rw [← hcv]; unfold cmpI; split <;> first | omega | (split <;> omega) }
 have hnB := nS_lt hn
 have hdB := nS_lt hd
 have hgc := do_gcd hn hd
 have hsg : vS (ofI (Int.gcd (nS n) (nS d) : Int)) = true := gcd_vS hnB hdB
 have hg0 : nS (ofI (Int.gcd (nS n) (nS d) : Int)) ≠ 0 := by
  rw [nS_ofI]
  have : 0 < Int.gcd (nS n) (nS d) := Int.gcd_pos_of_ne_zero_right _ (by omega)
  omega
 have hq1 := do_quo hn hsg hg0
 have hq2 := do_quo hd hsg hg0
 simp only [nS_ofI] at hgc hq1 hq2
 have hn' := hn
 have hd' := hd
 generalize ofI (Int.gcd (nS n) (nS d) : Int) = g at *
 generalize ofI (nS n / (Int.gcd (nS n) (nS d) : Int)) = q1 at *
 generalize ofI (nS d / (Int.gcd (nS n) (nS d) : Int)) = q2 at *
 have V3 := Lib.hid hgc
 have V4 := Lib.hid hq1
 have V5 := Lib.hid hq2
 have Y1 := Lib.hid (size_vS hn')
 have Y2 := Lib.hid (size_vS hd')
 have Y3 := Lib.hid (size_vS hsg)
 have Hw := Lib.hid hw
 have Hg := Lib.hid hg
 have Hb := Lib.hid hb
 have Hne : Hid (w.heap.size ≠ b) := Lib.hid (by omega)
 clear hw hg hb hn hd hnB hdB hn' hd' hsg hg0 hgc hq1 hq2 hcv h0
 go_enter Tryz.func94, Tryz.ntmps94
 go_wp2_with fail
 refine (H3.out _).mono ?_
 rintro e w1 ⟨rfl, hb1⟩
 have K1 := Lib.hid (Blk.below (Blk.alloc Hw.out (.cells #[.string ⟨#[]⟩, .string ⟨#[]⟩] 26)) hb1 (by simp; omega))
 have R1 := Lib.hid (Blk.below (Blk.new w #[.string ⟨#[]⟩, .string ⟨#[]⟩] 26) hb1 (by simp))
 have G1 := Lib.hid ((World.grownBy_alloc w (.cells #[.string ⟨#[]⟩, .string ⟨#[]⟩] 26) (some b)).trans (grown_of_below hb1 _))
 clear hb1
 go_wp2_with fail
 refine (do_any _ _ opGcd n d b false _ K1.out (fun _ => Hg.out.grown G1.out Hb.out) Y1.out Y2.out).mono ?_
 rw [V3.out]
 rintro e w2 ⟨rfl, k2, g2⟩
 have K2 := Lib.hid k2
 have R2 := Lib.hid (Blk.other R1.out g2 Hne.out)
 have G2 := Lib.hid (G1.out.trans g2)
 clear k2 g2
 go_wp2_with fail
 refine (quotient_any n g b false _ K2.out (fun _ => Hg.out.grown G2.out Hb.out) Y1.out Y3.out).mono ?_
 rw [V4.out]
 rintro e w3 ⟨rfl, k3, g3⟩
 have K3 := Lib.hid k3
 have R3 := Lib.hid (Blk.other R2.out g3 Hne.out)
 have G3 := Lib.hid (G2.out.trans g3)
 clear k3 g3
 go_wp2_with fail
 refine (quotient_any d g b false _ K3.out (fun _ => Hg.out.grown G3.out Hb.out) Y2.out Y3.out).mono ?_
 rw [V5.out]
 rintro e w4 ⟨rfl, k4, g4⟩
 have K4 := Lib.hid k4
 have R4 := Lib.hid (Blk.other R3.out g4 Hne.out)
 have G4 := Lib.hid (G3.out.trans g4)
 clear k4 g4
 obtain ⟨r1, r2, r3, r4, r5⟩ := blk2 R4.out
 obtain ⟨s1, s2, s3⟩ := blk1 K4.out
 go_wp2
 refine bodyPost_ret (v := vRE ((q1, q2), 0)) (by simp [results, Tryz.results94, go_sem, r1, r2, r3, r4, r5]) rfl ⟨rfl, ?_⟩
 exact (grown_setNew (grown_setNew G4.out (Nat.le_refl _) _) (Nat.le_refl _) _).trans (World.grownBy_alloc _ _ _)
set_option maxRecDepth 100000 in
set_option maxHeartbeats 1000000 in
theorem reduced_neg (n d : ByteArray) (hn : vS n = true) (hd : vS d = true) (h0 : nS d < 0) (b : Nat) (w : World) (hw : Wk w b false) (hg : Glob w) (hb : AboveG b) : Calls Tryz.prog 94 #[.pointer (some ⟨b, 0, none⟩), .string n, .string d] w (RedPost w b (redF false n d)) := by
 rw [red_neg hn hd h0]
 obtain ⟨c1, c2, c3⟩ := blk1 hw
 have c4 : (d.toList == [48]) = false := by rw [eq48 hd]; simp; omega
 have H3 := Lib.hid (fun w => intCompare_any d ⟨#[48]⟩ w (size_vS hd) (by decide))
 rw [iCmp_zero hd] at H3
 obtain ⟨cv, hcv⟩ : ∃ c, cmpI (nS d) 0 = c := ⟨_, rfl⟩
 rw [hcv] at H3
 have hc : cv < 0 := by { rw [← hcv]; unfold cmpI; split <;> first | omega | (split <;> omega) }
 have hnB := nS_lt hn
 have hdB := nS_lt hd
 have V1 := Lib.hid (do_neg hn)
 have V2 := Lib.hid (do_neg hd)
 have Z1 := Lib.hid (size_vS hn)
 have Z2 := Lib.hid (size_vS hd)
 have hn' : vS (ofI (-nS n)) = true := vS_ofI (by rw [Int.natAbs_neg]; exact hnB)
 have hd' : vS (ofI (-nS d)) = true := vS_ofI (by rw [Int.natAbs_neg]; exact hdB)
 have hgc := do_gcd hn' hd'
 have hsg : vS (ofI (Int.gcd (-nS n) (-nS d) : Int)) = true := gcd_vS (by rw [Int.natAbs_neg]; exact hnB) (by rw [Int.natAbs_neg]; exact hdB)
 have hg0 : nS (ofI (Int.gcd (-nS n) (-nS d) : Int)) ≠ 0 := by
  rw [nS_ofI]
  have : 0 < Int.gcd (-nS n) (-nS d) := Int.gcd_pos_of_ne_zero_right _ (by omega)
  omega
 have hq1 := do_quo hn' hsg hg0
 have hq2 := do_quo hd' hsg hg0
 simp only [nS_ofI] at hgc hq1 hq2
 generalize ofI (-nS n) = n' at *
 generalize ofI (-nS d) = d' at *
 generalize ofI (Int.gcd (-nS n) (-nS d) : Int) = g at *
 generalize ofI ((-nS n) / (Int.gcd (-nS n) (-nS d) : Int)) = q1 at *
 generalize ofI ((-nS d) / (Int.gcd (-nS n) (-nS d) : Int)) = q2 at *
 have V3 := Lib.hid hgc
 have V4 := Lib.hid hq1
 have V5 := Lib.hid hq2
 have Y1 := Lib.hid (size_vS hn')
 have Y2 := Lib.hid (size_vS hd')
 have Y3 := Lib.hid (size_vS hsg)
 have Hw := Lib.hid hw
 have Hg := Lib.hid hg
 have Hb := Lib.hid hb
 have Hne : Hid (w.heap.size ≠ b) := Lib.hid (by omega)
 clear hw hg hb hn hd hnB hdB hn' hd' hsg hg0 hgc hq1 hq2 hcv h0
 go_enter Tryz.func94, Tryz.ntmps94
 go_wp2_with fail
 refine (H3.out _).mono ?_
 rintro e w1 ⟨rfl, hb1⟩
 have K1 := Lib.hid (Blk.below (Blk.alloc Hw.out (.cells #[.string ⟨#[]⟩, .string ⟨#[]⟩] 26)) hb1 (by simp; omega))
 have R1 := Lib.hid (Blk.below (Blk.new w #[.string ⟨#[]⟩, .string ⟨#[]⟩] 26) hb1 (by simp))
 have G1 := Lib.hid ((World.grownBy_alloc w (.cells #[.string ⟨#[]⟩, .string ⟨#[]⟩] 26) (some b)).trans (grown_of_below hb1 _))
 clear hb1
 go_wp2_with fail
 refine (do_any _ _ opSub ⟨#[48]⟩ n b false _ K1.out (fun _ => Hg.out.grown G1.out Hb.out) (by decide) Z1.out).mono ?_
 rw [V1.out]
 rintro e w2 ⟨rfl, k2, g2⟩
 have K2 := Lib.hid k2
 have R2 := Lib.hid (Blk.other R1.out g2 Hne.out)
 have G2 := Lib.hid (G1.out.trans g2)
 clear k2 g2
 go_wp2_with fail
 refine (do_any _ _ opSub ⟨#[48]⟩ d b false _ K2.out (fun _ => Hg.out.grown G2.out Hb.out) (by decide) Z2.out).mono ?_
 rw [V2.out]
 rintro e w3 ⟨rfl, k3, g3⟩
 have K3 := Lib.hid k3
 have R3 := Lib.hid (Blk.other R2.out g3 Hne.out)
 have G3 := Lib.hid (G2.out.trans g3)
 clear k3 g3
 go_wp2_with fail
 refine (do_any _ _ opGcd n' d' b false _ K3.out (fun _ => Hg.out.grown G3.out Hb.out) Y1.out Y2.out).mono ?_
 rw [V3.out]
 rintro e w4 ⟨rfl, k4, g4⟩
 have K4 := Lib.hid k4
 have R4 := Lib.hid (Blk.other R3.out g4 Hne.out)
 have G4 := Lib.hid (G3.out.trans g4)
 clear k4 g4
 go_wp2_with fail
 refine (quotient_any n' g b false _ K4.out (fun _ => Hg.out.grown G4.out Hb.out) Y1.out Y3.out).mono ?_
 rw [V4.out]
 rintro e w5 ⟨rfl, k5, g5⟩
 have K5 := Lib.hid k5
 have R5 := Lib.hid (Blk.other R4.out g5 Hne.out)
 have G5 := Lib.hid (G4.out.trans g5)
 clear k5 g5
 go_wp2_with fail
 refine (quotient_any d' g b false _ K5.out (fun _ => Hg.out.grown G5.out Hb.out) Y2.out Y3.out).mono ?_
 rw [V5.out]
 rintro e w6 ⟨rfl, k6, g6⟩
 have K6 := Lib.hid k6
 have R6 := Lib.hid (Blk.other R5.out g6 Hne.out)
 have G6 := Lib.hid (G5.out.trans g6)
 clear k6 g6
 obtain ⟨r1, r2, r3, r4, r5⟩ := blk2 R6.out
 obtain ⟨s1, s2, s3⟩ := blk1 K6.out
 go_wp2
 refine bodyPost_ret (v := vRE ((q1, q2), 0)) (by simp [results, Tryz.results94, go_sem, r1, r2, r3, r4, r5]) rfl ⟨rfl, ?_⟩
 exact (grown_setNew (grown_setNew G6.out (Nat.le_refl _) _) (Nat.le_refl _) _).trans (World.grownBy_alloc _ _ _)
theorem reduced_any (n d : ByteArray) (b : Nat) (bad : Bool) (w : World) (hw : Wk w b bad) (h : bad = false → vS n = true ∧ vS d = true ∧ Glob w) (hb : AboveG b) : Calls Tryz.prog 94 #[.pointer (some ⟨b, 0, none⟩), .string n, .string d] w (RedPost w b (redF bad n d)) := by
 cases bad with
 | true => exact reduced_bad n d b w hw
 | false =>
   obtain ⟨hn, hd, hg⟩ := h rfl
   rcases Int.lt_trichotomy (nS d) 0 with h0 | h0 | h0
   · exact reduced_neg n d hn hd h0 b w hw hg hb
   · have : redF false n d = (noR, 40) := by unfold redF rMake; simp [h0]
     rw [this]
     exact reduced_zero n d hd h0 b w hw
   · exact reduced_pos n d hn hd h0 b w hw hg hb
theorem doF_true (r : SE) : doF true r = (ByteArray.empty, true) := rfl
theorem doF_chk (s : Int) : doF false (chkI s) = if small s then (ofI s, false) else (ByteArray.empty, true) := by
 unfold doF chkI small
 by_cases h : s.natAbs < BIG
 · rw [if_neg (by simp), if_pos h, if_pos (by simpa using h)]; rfl
 · rw [if_neg (by simp), if_neg h, if_neg (by simpa using h)]; rfl
theorem iMul_chk {a b : ByteArray} (ha : vS a = true) (hb : vS b = true) : iMul a b = chkI (nS a * nS b) := by unfold iMul; rw [if_pos (by simp [ha, hb])]
theorem iAdd_chk {a b : ByteArray} (ha : vS a = true) (hb : vS b = true) : iAdd a b = chkI (nS a + nS b) := by unfold iAdd; rw [if_pos (by simp [ha, hb])]
theorem iSub_chk {a b : ByteArray} (ha : vS a = true) (hb : vS b = true) : iSub a b = chkI (nS a - nS b) := by unfold iSub; rw [if_pos (by simp [ha, hb])]
theorem vS_small {s : Int} (h : small s = true) : vS (ofI s) = true := vS_ofI (small_iff.1 h)
theorem redF_true (n d : ByteArray) : redF true n d = (noR, 40) := rfl
theorem redF_ofI (n d : Int) : redF false (ofI n) (ofI d) = rMk n d := by unfold redF; rw [if_neg (by simp), rMake_ofI]
theorem doF_ok {bad : Bool} {r : SE} {x : ByteArray} (h : doF bad r = (x, false)) : bad = false ∧ r.1 = x ∧ r.2 = 0 := by
 unfold doF at h
 cases bad with
 | true => simp at h
 | false => simp at h; exact ⟨rfl, h.1, h.2⟩
def OkF (f : ByteArray → ByteArray → SE) : Prop := ∀ x y, (f x y).2 = 0 → vS (f x y).1 = true
theorem chkI_vS {s : Int} (h : (chkI s).2 = 0) : vS (chkI s).1 = true := by
 unfold chkI at h ⊢
 split at h
 · rename_i h2; rw [if_pos h2]; exact vS_ofI h2
 · simp at h
theorem okMul : OkF iMul := by
 intro x y h
 unfold iMul at h ⊢
 split at h
 · rename_i h2; rw [if_pos h2]; exact chkI_vS h
 · simp at h
theorem okAdd : OkF iAdd := by
 intro x y h
 unfold iAdd at h ⊢
 split at h
 · rename_i h2; rw [if_pos h2]; exact chkI_vS h
 · simp at h
theorem okSub : OkF iSub := by
 intro x y h
 unfold iSub at h ⊢
 split at h
 · rename_i h2; rw [if_pos h2]; exact chkI_vS h
 · simp at h
theorem doF_vS {f : ByteArray → ByteArray → SE} (hf : OkF f) {bad : Bool} {x y : ByteArray} (h : (doF bad (f x y)).2 = false) : bad = false ∧ vS (doF bad (f x y)).1 = true := by
 obtain ⟨h1, h2, h3⟩ := doF_ok (show doF bad (f x y) = ((doF bad (f x y)).1, false) from Prod.ext rfl h)
 exact ⟨h1, by rw [← h2]; exact hf x y h3⟩
def sum2 (a b : RS) : ByteArray × Bool := doF ([a, b].any fun r => !rV r) (iMul a.1 b.2)
def sum3 (a b : RS) : ByteArray × Bool := doF (sum2 a b).2 (iMul b.1 a.2)
def sum4 (f : ByteArray → ByteArray → SE) (a b : RS) : ByteArray × Bool := doF (sum3 a b).2 (f (sum2 a b).1 (sum3 a b).1)
def sum5 (f : ByteArray → ByteArray → SE) (a b : RS) : ByteArray × Bool := doF (sum4 f a b).2 (iMul a.2 b.2)
def sumF (f : ByteArray → ByteArray → SE) (a b : RS) : RS × Int := redF (sum5 f a b).2 (sum4 f a b).1 (sum5 f a b).1
theorem sum_gen {f : ByteArray → ByteArray → SE} {F : Int → Int → Int} (hf : ∀ {x y : ByteArray}, vS x = true → vS y = true → f x y = chkI (F (nS x) (nS y))) (a b : RS) :
 sumF f a b = if rV a && rV b && small (nS a.1 * nS b.2) && small (nS b.1 * nS a.2) then rMk (F (nS a.1 * nS b.2) (nS b.1 * nS a.2)) (nS a.2 * nS b.2) else (noR, 40) := by
 cases ha : rV a
 · simp [sumF, sum5, sum4, sum3, sum2, ha, doF_true, redF_true]
 · cases hb : rV b
   · simp [sumF, sum5, sum4, sum3, sum2, ha, hb, doF_true, redF_true]
   · obtain ⟨a1, a2, _, _⟩ := rV_parts ha
     obtain ⟨b1, b2, _, _⟩ := rV_parts hb
     have e2 : sum2 a b = if small (nS a.1 * nS b.2) then (ofI (nS a.1 * nS b.2), false) else (ByteArray.empty, true) := by
      unfold sum2
      simp only [List.any_cons, List.any_nil, ha, hb, Bool.not_true, Bool.or_false]
      rw [iMul_chk a1 b2, doF_chk]
     cases h1 : small (nS a.1 * nS b.2)
     · rw [h1] at e2
       simp [sumF, sum5, sum4, sum3, e2, doF_true, redF_true]
     · rw [h1] at e2
       have e3 : sum3 a b = if small (nS b.1 * nS a.2) then (ofI (nS b.1 * nS a.2), false) else (ByteArray.empty, true) := by
        unfold sum3
        rw [e2]
        simp only [if_true]
        rw [iMul_chk b1 a2, doF_chk]
       cases h2 : small (nS b.1 * nS a.2)
       · rw [h2] at e3
         simp [sumF, sum5, sum4, e3, doF_true, redF_true]
       · rw [h2] at e3
         have e4 : sum4 f a b = if small (F (nS a.1 * nS b.2) (nS b.1 * nS a.2)) then (ofI (F (nS a.1 * nS b.2) (nS b.1 * nS a.2)), false) else (ByteArray.empty, true) := by
          unfold sum4
          rw [e2, e3]
          simp only [if_true]
          rw [hf (vS_small h1) (vS_small h2), doF_chk, nS_ofI, nS_ofI]
         cases h3 : small (F (nS a.1 * nS b.2) (nS b.1 * nS a.2))
         · rw [h3] at e4
           simp [sumF, sum5, e4, doF_true, redF_true]
           rw [rMk_no (by simp [h3])]
         · rw [h3] at e4
           have e5 : sum5 f a b = if small (nS a.2 * nS b.2) then (ofI (nS a.2 * nS b.2), false) else (ByteArray.empty, true) := by
            unfold sum5
            rw [e4]
            simp only [if_true]
            rw [iMul_chk a2 b2, doF_chk]
           unfold sumF
           rw [e4, e5]
           cases h4 : small (nS a.2 * nS b.2)
           · simp [redF_true]
             rw [rMk_no (by simp [h4])]
           · simp [redF_ofI]
theorem sum_add (a b : RS) : sumF iAdd a b = rAdd a b := sum_gen (F := fun x y => x + y) (fun hx hy => iAdd_chk hx hy) a b
theorem sum_sub (a b : RS) : sumF iSub a b = rSub a b := sum_gen (F := fun x y => x - y) (fun hx hy => iSub_chk hx hy) a b
def prod2 (a b : RS) (x y : ByteArray) : ByteArray × Bool := doF ([a, b].any fun r => !rV r) (iMul x y)
def prod3 (a b : RS) (x y z t : ByteArray) : ByteArray × Bool := doF (prod2 a b x y).2 (iMul z t)
def prodF (a b : RS) (x y z t : ByteArray) : RS × Int := redF (prod3 a b x y z t).2 (prod2 a b x y).1 (prod3 a b x y z t).1
theorem prod_gen (a b : RS) (x y z t : ByteArray) (hv : rV a = true → rV b = true → vS x = true ∧ vS y = true ∧ vS z = true ∧ vS t = true) :
 prodF a b x y z t = if rV a && rV b then rMk (nS x * nS y) (nS z * nS t) else (noR, 40) := by
 cases ha : rV a
 · simp [prodF, prod3, prod2, ha, doF_true, redF_true]
 · cases hb : rV b
   · simp [prodF, prod3, prod2, ha, hb, doF_true, redF_true]
   · obtain ⟨v1, v2, v3, v4⟩ := hv ha hb
     have e2 : prod2 a b x y = if small (nS x * nS y) then (ofI (nS x * nS y), false) else (ByteArray.empty, true) := by
      unfold prod2
      simp only [List.any_cons, List.any_nil, ha, hb, Bool.not_true, Bool.or_false]
      rw [iMul_chk v1 v2, doF_chk]
     cases h1 : small (nS x * nS y)
     · rw [h1] at e2
       simp [prodF, prod3, e2, doF_true, redF_true]
       rw [rMk_no (by simp [h1])]
     · rw [h1] at e2
       have e3 : prod3 a b x y z t = if small (nS z * nS t) then (ofI (nS z * nS t), false) else (ByteArray.empty, true) := by
        unfold prod3
        rw [e2]
        simp only [if_true]
        rw [iMul_chk v3 v4, doF_chk]
       unfold prodF
       rw [e2, e3]
       cases h2 : small (nS z * nS t)
       · simp [redF_true]
         rw [rMk_no (by simp [h2])]
       · simp [redF_ofI]
theorem prod_mul (a b : RS) : prodF a b a.1 b.1 a.2 b.2 = rMul a b := prod_gen a b _ _ _ _ fun ha hb => ⟨(rV_parts ha).1, (rV_parts hb).1, (rV_parts ha).2.1, (rV_parts hb).2.1⟩
theorem prod_div (a b : RS) : prodF a b a.1 b.2 a.2 b.1 = rDiv a b := prod_gen a b _ _ _ _ fun ha hb => ⟨(rV_parts ha).1, (rV_parts hb).2.1, (rV_parts ha).2.1, (rV_parts hb).1⟩
def RatPost (r : RS × Int) (w : World) (e : Ending) (w' : World) : Prop := e = .returned (vRE r) ∧ Below w.heap.size w w'
theorem size_ofI {n : Int} (h0 : -9223372036854775808 ≤ n) (h1 : n ≤ 9223372036854775807) : (ofI n).size ≤ maxLen := size_vS (vS_ofI (Nat.lt_of_lt_of_le (show n.natAbs < 10 ^ 19 by omega) (Nat.pow_le_pow_right (by decide) (by decide))))
theorem rdR2 {w : World} {sb : Nat} {t : TypeId} {a1 a2 b1 b2 : ByteArray} (h : Blk w sb #[.string a1, .string a2, .string b1, .string b2] t) : RdR w sb [(a1, a2), (b1, b2)] := by
 refine ⟨h.lt, fun j r hr => ?_⟩
 cases j with
 | zero => simp at hr; subst hr; exact ⟨h.cell rfl, h.cell rfl⟩
 | succ j =>
   cases j with
   | zero => simp at hr; subst hr; exact ⟨h.cell rfl, h.cell rfl⟩
   | succ j => simp at hr
def Sz (a : RS) : Prop := a.1.size ≤ maxLen ∧ a.2.size ≤ maxLen
theorem sz2 {a b : RS} (ha : Sz a) (hb : Sz b) : ∀ r ∈ [a, b], r.1.size ≤ maxLen ∧ r.2.size ≤ maxLen := by
 intro r hr
 simp only [List.mem_cons, List.not_mem_nil, or_false] at hr
 rcases hr with rfl | rfl
 · exact ha
 · exact hb
theorem do_true (gf : Nat) (f : ByteArray → ByteArray → SE) (x y : ByteArray) (b : Nat) (w : World) (hw : Wk w b true) :
 Calls Tryz.prog 121 #[.pointer (some ⟨b, 0, none⟩), .func (.func gf) #[] #[], .string x, .string y] w (DoPost w b (doF true (f x y))) := by
 obtain ⟨c1, c2, _⟩ := blk1 hw
 have HW := Lib.hid hw
 clear hw
 go_enter Tryz.func121, Tryz.ntmps121
 go_wp2
 go_ret
 exact ⟨rfl, HW.out, World.grownBy.refl _ _⟩
theorem vS_quo {n d : ByteArray} (hn : vS n = true) (hd : vS d = true) (h0 : 0 < nS d) : vS (ofI (nS n / nS d)) = true ∧ vS (ofI (nS n % nS d)) = true := by
 have e1 := nS_sgn n
 have e2 := nS_sgn d
 refine ⟨vS_ofI ?_, vS_ofI ?_⟩
 · rw [e1, e2]; exact div_small (by omega) (nS_lt hn) _ _
 · rw [e1, e2]; exact mod_small (by omega) (nS_lt hd) _ _
set_option maxRecDepth 100000 in
set_option maxHeartbeats 1000000 in
theorem ratMul_any (a b : RS) (w : World) (hg : Glob w) (ha : Sz a) (hb : Sz b) : Calls Tryz.prog 46 #[vR a, vR b] w (RatPost (rMul a b) w) := by
 obtain ⟨a1, a2⟩ := a
 obtain ⟨b1, b2⟩ := b
 rw [← prod_mul]
 show Calls _ _ #[.agg #[.string a1, .string a2], .agg #[.string b1, .string b2]] _ _
 simp only [prodF]
 have Hg := Lib.hid hg
 have Hz := Lib.hid (And.intro ha hb)
 have HV : Hid (prod3 (a1, a2) (b1, b2) a1 b1 a2 b2 = doF (prod2 (a1, a2) (b1, b2) a1 b1).2 (iMul a2 b2)) := rfl
 have HV2 : Hid (prod2 (a1, a2) (b1, b2) a1 b1 = doF ([(a1, a2), (b1, b2)].any fun r => !rV r) (iMul a1 b1)) := rfl
 have HK : Hid ((prod3 (a1, a2) (b1, b2) a1 b1 a2 b2).2 = false → vS (prod2 (a1, a2) (b1, b2) a1 b1).1 = true ∧ vS (prod3 (a1, a2) (b1, b2) a1 b1 a2 b2).1 = true) := by
  refine Lib.hid fun h => ?_
  have h1 := doF_vS okMul (show (doF (prod2 (a1, a2) (b1, b2) a1 b1).2 (iMul a2 b2)).2 = false from h)
  exact ⟨(doF_vS okMul (show (doF ([(a1, a2), (b1, b2)].any fun r => !rV r) (iMul a1 b1)).2 = false from h1.1)).2, h1.2⟩
 generalize prod3 (a1, a2) (b1, b2) a1 b1 a2 b2 = p3 at *
 generalize prod2 (a1, a2) (b1, b2) a1 b1 = p2 at *
 generalize hbd : ([(a1, a2), (b1, b2)].any fun r => !rV r) = bd at *
 have Hbd := Lib.hid hbd
 clear hbd
 obtain ⟨x2, bd2⟩ := p2
 obtain ⟨x3, bd3⟩ := p3
 clear hg ha hb
 have q0 : Blk (((((w.alloc (.cells #[.string a1, .string a2] 26)).alloc (.cells #[.string b1, .string b2] 26)).alloc (.cells #[.string ⟨#[]⟩, .string ⟨#[]⟩] 26)).alloc (.cells #[.bool false] 110)).alloc (.cells #[.string a1, .string a2, .string b1, .string b2] 26)) w.heap.size #[.string a1, .string a2] 26 := ((((Blk.new w _ _).alloc _).alloc _).alloc _).alloc _
 have q1 : Blk (((((w.alloc (.cells #[.string a1, .string a2] 26)).alloc (.cells #[.string b1, .string b2] 26)).alloc (.cells #[.string ⟨#[]⟩, .string ⟨#[]⟩] 26)).alloc (.cells #[.bool false] 110)).alloc (.cells #[.string a1, .string a2, .string b1, .string b2] 26)) (w.heap.size + 1) #[.string b1, .string b2] 26 := (((Blk.newAt _ _ _ (by simp)).alloc _).alloc _).alloc _
 have q2 : Blk (((((w.alloc (.cells #[.string a1, .string a2] 26)).alloc (.cells #[.string b1, .string b2] 26)).alloc (.cells #[.string ⟨#[]⟩, .string ⟨#[]⟩] 26)).alloc (.cells #[.bool false] 110)).alloc (.cells #[.string a1, .string a2, .string b1, .string b2] 26)) (w.heap.size + 2) #[.string ⟨#[]⟩, .string ⟨#[]⟩] 26 := ((Blk.newAt _ _ _ (by simp)).alloc _).alloc _
 have q3 : Wk (((((w.alloc (.cells #[.string a1, .string a2] 26)).alloc (.cells #[.string b1, .string b2] 26)).alloc (.cells #[.string ⟨#[]⟩, .string ⟨#[]⟩] 26)).alloc (.cells #[.bool false] 110)).alloc (.cells #[.string a1, .string a2, .string b1, .string b2] 26)) (w.heap.size + 3) false := (Blk.newAt _ _ _ (by simp)).alloc _
 have q4 : Blk (((((w.alloc (.cells #[.string a1, .string a2] 26)).alloc (.cells #[.string b1, .string b2] 26)).alloc (.cells #[.string ⟨#[]⟩, .string ⟨#[]⟩] 26)).alloc (.cells #[.bool false] 110)).alloc (.cells #[.string a1, .string a2, .string b1, .string b2] 26)) (w.heap.size + 4) #[.string a1, .string a2, .string b1, .string b2] 26 := Blk.newAt _ _ _ (by simp)
 have q5 : Below w.heap.size w (((((w.alloc (.cells #[.string a1, .string a2] 26)).alloc (.cells #[.string b1, .string b2] 26)).alloc (.cells #[.string ⟨#[]⟩, .string ⟨#[]⟩] 26)).alloc (.cells #[.bool false] 110)).alloc (.cells #[.string a1, .string a2, .string b1, .string b2] 26)) := (((((Below.refl _ w).alloc (Nat.le_refl _) _).alloc (by simp) _).alloc (by simp <;> omega) _).alloc (by simp <;> omega) _).alloc (by simp <;> omega) _
 have A0 := Lib.hid q0
 have B0 := Lib.hid q1
 have R0 := Lib.hid q2
 have K0 := Lib.hid q3
 have S0 := Lib.hid q4
 have L0 := Lib.hid q5
 have hA := Hg.out.above (b := w.heap.size + 3) (by omega)
 have Hb := Lib.hid hA
 clear q0 q1 q2 q3 q4 q5 hA
 go_enter Tryz.func46, Tryz.ntmps46
 go_wp2_with fail
 simp only [Nat.add_assoc, Nat.reduceAdd]
 generalize (((((w.alloc (.cells #[.string a1, .string a2] 26)).alloc (.cells #[.string b1, .string b2] 26)).alloc (.cells #[.string ⟨#[]⟩, .string ⟨#[]⟩] 26)).alloc (.cells #[.bool false] 110)).alloc (.cells #[.string a1, .string a2, .string b1, .string b2] 26)) = w0 at *
 refine (check_any [(a1, a2), (b1, b2)] (w.heap.size + 4) _ (w.heap.size + 3) false _ K0.out (rdR2 S0.out) (by omega) (by simp) (Hg.out.below L0.out) Hb.out (sz2 Hz.out.1 Hz.out.2)).mono ?_
 rw [Bool.false_or, Hbd.out]
 rintro e w1 ⟨rfl, k1, g1⟩
 have K1 := Lib.hid k1
 have A1 := Lib.hid (Blk.other A0.out g1 (by omega))
 have B1 := Lib.hid (Blk.other B0.out g1 (by omega))
 have R1 := Lib.hid (Blk.other R0.out g1 (by omega))
 have L1 := Lib.hid (L0.out.trans (below_of_grown g1 (by omega) L0.out.size))
 obtain ⟨a10, a11, _, _, _⟩ := blk2 A1.out
 obtain ⟨b10, b11, _, _, _⟩ := blk2 B1.out
 clear k1 g1
 clear S0
 go_wp2_with fail
 refine (mul_any a1 b1 (w.heap.size + 3) bd _ K1.out (fun _ => Hg.out.below L1.out) Hz.out.1.1 Hz.out.2.1).mono ?_
 rw [← HV2.out]
 rintro e w2 ⟨rfl, k2, g2⟩
 have K2 := Lib.hid k2
 have A2 := Lib.hid (Blk.other A1.out g2 (by omega))
 have B2 := Lib.hid (Blk.other B1.out g2 (by omega))
 have R2 := Lib.hid (Blk.other R1.out g2 (by omega))
 have L2 := Lib.hid (L1.out.trans (below_of_grown g2 (by omega) L1.out.size))
 obtain ⟨a20, a21, _, _, _⟩ := blk2 A2.out
 obtain ⟨b20, b21, _, _, _⟩ := blk2 B2.out
 clear k2 g2
 go_wp2_with fail
 refine (mul_any a2 b2 (w.heap.size + 3) bd2 _ K2.out (fun _ => Hg.out.below L2.out) Hz.out.1.2 Hz.out.2.2).mono ?_
 rw [← HV.out]
 rintro e w3 ⟨rfl, k3, g3⟩
 have K3 := Lib.hid k3
 have A3 := Lib.hid (Blk.other A2.out g3 (by omega))
 have B3 := Lib.hid (Blk.other B2.out g3 (by omega))
 have R3 := Lib.hid (Blk.other R2.out g3 (by omega))
 have L3 := Lib.hid (L2.out.trans (below_of_grown g3 (by omega) L2.out.size))
 obtain ⟨a30, a31, _, _, _⟩ := blk2 A3.out
 obtain ⟨b30, b31, _, _, _⟩ := blk2 B3.out
 clear k3 g3
 go_wp2_with fail
 refine (reduced_any x2 x3 (w.heap.size + 3) bd3 _ K3.out (fun h => ⟨(HK.out h).1, (HK.out h).2, Hg.out.below L3.out⟩) Hb.out).mono ?_
 rintro e w4 ⟨rfl, g4⟩
 have R4 := Lib.hid (Blk.other R3.out g4 (by omega))
 have L4 := Lib.hid (L3.out.trans (below_of_grown g4 (by omega) L3.out.size))
 clear g4
 generalize redF bd3 x2 x3 = r at *
 obtain ⟨r1, r2, r3, r4, r5⟩ := blk2 R4.out
 obtain ⟨⟨q1, q2⟩, q3⟩ := r
 go_wp2
 skip
 refine bodyPost_ret (v := vRE ((q1, q2), q3)) (by simp [results, Tryz.results46, go_sem, r1, r2, r3, r4, r5]) rfl ⟨rfl, ?_⟩
 exact (L4.out.setCell (by simp) _).setCell (by simp) _
set_option maxRecDepth 100000 in
set_option maxHeartbeats 1000000 in
theorem ratDiv_any (a b : RS) (w : World) (hg : Glob w) (ha : Sz a) (hb : Sz b) : Calls Tryz.prog 47 #[vR a, vR b] w (RatPost (rDiv a b) w) := by
 obtain ⟨a1, a2⟩ := a
 obtain ⟨b1, b2⟩ := b
 rw [← prod_div]
 show Calls _ _ #[.agg #[.string a1, .string a2], .agg #[.string b1, .string b2]] _ _
 simp only [prodF]
 have Hg := Lib.hid hg
 have Hz := Lib.hid (And.intro ha hb)
 have HV : Hid (prod3 (a1, a2) (b1, b2) a1 b2 a2 b1 = doF (prod2 (a1, a2) (b1, b2) a1 b2).2 (iMul a2 b1)) := rfl
 have HV2 : Hid (prod2 (a1, a2) (b1, b2) a1 b2 = doF ([(a1, a2), (b1, b2)].any fun r => !rV r) (iMul a1 b2)) := rfl
 have HK : Hid ((prod3 (a1, a2) (b1, b2) a1 b2 a2 b1).2 = false → vS (prod2 (a1, a2) (b1, b2) a1 b2).1 = true ∧ vS (prod3 (a1, a2) (b1, b2) a1 b2 a2 b1).1 = true) := by
  refine Lib.hid fun h => ?_
  have h1 := doF_vS okMul (show (doF (prod2 (a1, a2) (b1, b2) a1 b2).2 (iMul a2 b1)).2 = false from h)
  exact ⟨(doF_vS okMul (show (doF ([(a1, a2), (b1, b2)].any fun r => !rV r) (iMul a1 b2)).2 = false from h1.1)).2, h1.2⟩
 generalize prod3 (a1, a2) (b1, b2) a1 b2 a2 b1 = p3 at *
 generalize prod2 (a1, a2) (b1, b2) a1 b2 = p2 at *
 generalize hbd : ([(a1, a2), (b1, b2)].any fun r => !rV r) = bd at *
 have Hbd := Lib.hid hbd
 clear hbd
 obtain ⟨x2, bd2⟩ := p2
 obtain ⟨x3, bd3⟩ := p3
 clear hg ha hb
 have q0 : Blk (((((w.alloc (.cells #[.string a1, .string a2] 26)).alloc (.cells #[.string b1, .string b2] 26)).alloc (.cells #[.string ⟨#[]⟩, .string ⟨#[]⟩] 26)).alloc (.cells #[.bool false] 110)).alloc (.cells #[.string a1, .string a2, .string b1, .string b2] 26)) w.heap.size #[.string a1, .string a2] 26 := ((((Blk.new w _ _).alloc _).alloc _).alloc _).alloc _
 have q1 : Blk (((((w.alloc (.cells #[.string a1, .string a2] 26)).alloc (.cells #[.string b1, .string b2] 26)).alloc (.cells #[.string ⟨#[]⟩, .string ⟨#[]⟩] 26)).alloc (.cells #[.bool false] 110)).alloc (.cells #[.string a1, .string a2, .string b1, .string b2] 26)) (w.heap.size + 1) #[.string b1, .string b2] 26 := (((Blk.newAt _ _ _ (by simp)).alloc _).alloc _).alloc _
 have q2 : Blk (((((w.alloc (.cells #[.string a1, .string a2] 26)).alloc (.cells #[.string b1, .string b2] 26)).alloc (.cells #[.string ⟨#[]⟩, .string ⟨#[]⟩] 26)).alloc (.cells #[.bool false] 110)).alloc (.cells #[.string a1, .string a2, .string b1, .string b2] 26)) (w.heap.size + 2) #[.string ⟨#[]⟩, .string ⟨#[]⟩] 26 := ((Blk.newAt _ _ _ (by simp)).alloc _).alloc _
 have q3 : Wk (((((w.alloc (.cells #[.string a1, .string a2] 26)).alloc (.cells #[.string b1, .string b2] 26)).alloc (.cells #[.string ⟨#[]⟩, .string ⟨#[]⟩] 26)).alloc (.cells #[.bool false] 110)).alloc (.cells #[.string a1, .string a2, .string b1, .string b2] 26)) (w.heap.size + 3) false := (Blk.newAt _ _ _ (by simp)).alloc _
 have q4 : Blk (((((w.alloc (.cells #[.string a1, .string a2] 26)).alloc (.cells #[.string b1, .string b2] 26)).alloc (.cells #[.string ⟨#[]⟩, .string ⟨#[]⟩] 26)).alloc (.cells #[.bool false] 110)).alloc (.cells #[.string a1, .string a2, .string b1, .string b2] 26)) (w.heap.size + 4) #[.string a1, .string a2, .string b1, .string b2] 26 := Blk.newAt _ _ _ (by simp)
 have q5 : Below w.heap.size w (((((w.alloc (.cells #[.string a1, .string a2] 26)).alloc (.cells #[.string b1, .string b2] 26)).alloc (.cells #[.string ⟨#[]⟩, .string ⟨#[]⟩] 26)).alloc (.cells #[.bool false] 110)).alloc (.cells #[.string a1, .string a2, .string b1, .string b2] 26)) := (((((Below.refl _ w).alloc (Nat.le_refl _) _).alloc (by simp) _).alloc (by simp <;> omega) _).alloc (by simp <;> omega) _).alloc (by simp <;> omega) _
 have A0 := Lib.hid q0
 have B0 := Lib.hid q1
 have R0 := Lib.hid q2
 have K0 := Lib.hid q3
 have S0 := Lib.hid q4
 have L0 := Lib.hid q5
 have hA := Hg.out.above (b := w.heap.size + 3) (by omega)
 have Hb := Lib.hid hA
 clear q0 q1 q2 q3 q4 q5 hA
 go_enter Tryz.func47, Tryz.ntmps47
 go_wp2_with fail
 simp only [Nat.add_assoc, Nat.reduceAdd]
 generalize (((((w.alloc (.cells #[.string a1, .string a2] 26)).alloc (.cells #[.string b1, .string b2] 26)).alloc (.cells #[.string ⟨#[]⟩, .string ⟨#[]⟩] 26)).alloc (.cells #[.bool false] 110)).alloc (.cells #[.string a1, .string a2, .string b1, .string b2] 26)) = w0 at *
 refine (check_any [(a1, a2), (b1, b2)] (w.heap.size + 4) _ (w.heap.size + 3) false _ K0.out (rdR2 S0.out) (by omega) (by simp) (Hg.out.below L0.out) Hb.out (sz2 Hz.out.1 Hz.out.2)).mono ?_
 rw [Bool.false_or, Hbd.out]
 rintro e w1 ⟨rfl, k1, g1⟩
 have K1 := Lib.hid k1
 have A1 := Lib.hid (Blk.other A0.out g1 (by omega))
 have B1 := Lib.hid (Blk.other B0.out g1 (by omega))
 have R1 := Lib.hid (Blk.other R0.out g1 (by omega))
 have L1 := Lib.hid (L0.out.trans (below_of_grown g1 (by omega) L0.out.size))
 obtain ⟨a10, a11, _, _, _⟩ := blk2 A1.out
 obtain ⟨b10, b11, _, _, _⟩ := blk2 B1.out
 clear k1 g1
 clear S0
 go_wp2_with fail
 refine (mul_any a1 b2 (w.heap.size + 3) bd _ K1.out (fun _ => Hg.out.below L1.out) Hz.out.1.1 Hz.out.2.2).mono ?_
 rw [← HV2.out]
 rintro e w2 ⟨rfl, k2, g2⟩
 have K2 := Lib.hid k2
 have A2 := Lib.hid (Blk.other A1.out g2 (by omega))
 have B2 := Lib.hid (Blk.other B1.out g2 (by omega))
 have R2 := Lib.hid (Blk.other R1.out g2 (by omega))
 have L2 := Lib.hid (L1.out.trans (below_of_grown g2 (by omega) L1.out.size))
 obtain ⟨a20, a21, _, _, _⟩ := blk2 A2.out
 obtain ⟨b20, b21, _, _, _⟩ := blk2 B2.out
 clear k2 g2
 go_wp2_with fail
 refine (mul_any a2 b1 (w.heap.size + 3) bd2 _ K2.out (fun _ => Hg.out.below L2.out) Hz.out.1.2 Hz.out.2.1).mono ?_
 rw [← HV.out]
 rintro e w3 ⟨rfl, k3, g3⟩
 have K3 := Lib.hid k3
 have A3 := Lib.hid (Blk.other A2.out g3 (by omega))
 have B3 := Lib.hid (Blk.other B2.out g3 (by omega))
 have R3 := Lib.hid (Blk.other R2.out g3 (by omega))
 have L3 := Lib.hid (L2.out.trans (below_of_grown g3 (by omega) L2.out.size))
 obtain ⟨a30, a31, _, _, _⟩ := blk2 A3.out
 obtain ⟨b30, b31, _, _, _⟩ := blk2 B3.out
 clear k3 g3
 go_wp2_with fail
 refine (reduced_any x2 x3 (w.heap.size + 3) bd3 _ K3.out (fun h => ⟨(HK.out h).1, (HK.out h).2, Hg.out.below L3.out⟩) Hb.out).mono ?_
 rintro e w4 ⟨rfl, g4⟩
 have R4 := Lib.hid (Blk.other R3.out g4 (by omega))
 have L4 := Lib.hid (L3.out.trans (below_of_grown g4 (by omega) L3.out.size))
 clear g4
 generalize redF bd3 x2 x3 = r at *
 obtain ⟨r1, r2, r3, r4, r5⟩ := blk2 R4.out
 obtain ⟨⟨q1, q2⟩, q3⟩ := r
 go_wp2
 skip
 refine bodyPost_ret (v := vRE ((q1, q2), q3)) (by simp [results, Tryz.results47, go_sem, r1, r2, r3, r4, r5]) rfl ⟨rfl, ?_⟩
 exact (L4.out.setCell (by simp) _).setCell (by simp) _
set_option maxRecDepth 100000 in
set_option maxHeartbeats 2000000 in
theorem ratSum_any (gf : Nat) (f : ByteArray → ByteArray → SE) (hop : OpF gf f) (hok : OkF f) (a b : RS) (w : World) (hg : Glob w) (ha : Sz a) (hb : Sz b) : Calls Tryz.prog 98 #[.func (.func gf) #[] #[], vR a, vR b] w (RatPost (sumF f a b) w) := by
 obtain ⟨a1, a2⟩ := a
 obtain ⟨b1, b2⟩ := b
 show Calls _ _ #[_, .agg #[.string a1, .string a2], .agg #[.string b1, .string b2]] _ _
 simp only [sumF]
 have Hg := Lib.hid hg
 have Hop := Lib.hid hop
 have Hz := Lib.hid (And.intro ha hb)
 have V2 : Hid (sum2 (a1, a2) (b1, b2) = doF ([(a1, a2), (b1, b2)].any fun r => !rV r) (iMul a1 b2)) := rfl
 have V3 : Hid (sum3 (a1, a2) (b1, b2) = doF (sum2 (a1, a2) (b1, b2)).2 (iMul b1 a2)) := rfl
 have V4 : Hid (sum4 f (a1, a2) (b1, b2) = doF (sum3 (a1, a2) (b1, b2)).2 (f (sum2 (a1, a2) (b1, b2)).1 (sum3 (a1, a2) (b1, b2)).1)) := rfl
 have V5 : Hid (sum5 f (a1, a2) (b1, b2) = doF (sum4 f (a1, a2) (b1, b2)).2 (iMul a2 b2)) := rfl
 generalize sum5 f (a1, a2) (b1, b2) = p5 at *
 generalize sum4 f (a1, a2) (b1, b2) = p4 at *
 generalize sum3 (a1, a2) (b1, b2) = p3 at *
 generalize sum2 (a1, a2) (b1, b2) = p2 at *
 generalize hbd : ([(a1, a2), (b1, b2)].any fun r => !rV r) = bd at *
 have Hbd := Lib.hid hbd
 clear hbd
 obtain ⟨x2, d2⟩ := p2
 obtain ⟨x3, d3⟩ := p3
 obtain ⟨x4, d4⟩ := p4
 obtain ⟨x5, d5⟩ := p5
 have HK : Hid (d5 = false → vS x4 = true ∧ vS x5 = true) := by
  refine Lib.hid fun h => ?_
  have h5 := doF_vS okMul (show (doF d4 (iMul a2 b2)).2 = false by have := V5.out; simp only at this; rw [← this]; exact h)
  have h4 := doF_vS hok (show (doF d3 (f x2 x3)).2 = false by have := V4.out; simp only at this; rw [← this]; exact h5.1)
  have e4 := V4.out; have e5 := V5.out
  simp only at e4 e5
  rw [← e5] at h5; rw [← e4] at h4
  exact ⟨h4.2, h5.2⟩
 have HZ : Hid (d3 = false → x2.size ≤ maxLen ∧ x3.size ≤ maxLen) := by
  refine Lib.hid fun h => ?_
  have h3 := doF_vS okMul (show (doF d2 (iMul b1 a2)).2 = false by have := V3.out; simp only at this; rw [← this]; exact h)
  have h2 := doF_vS okMul (show (doF bd (iMul a1 b2)).2 = false by have := V2.out; rw [← this]; exact h3.1)
  have e3 := V3.out; have e2 := V2.out
  simp only at e3
  rw [← e3] at h3; rw [← e2] at h2
  exact ⟨size_vS h2.2, size_vS h3.2⟩
 clear hg ha hb hop hok
 have q0 : Blk (((((w.alloc (.cells #[.string a1, .string a2] 26)).alloc (.cells #[.string b1, .string b2] 26)).alloc (.cells #[.string ⟨#[]⟩, .string ⟨#[]⟩] 26)).alloc (.cells #[.bool false] 110)).alloc (.cells #[.string a1, .string a2, .string b1, .string b2] 26)) w.heap.size #[.string a1, .string a2] 26 := ((((Blk.new w _ _).alloc _).alloc _).alloc _).alloc _
 have q1 : Blk (((((w.alloc (.cells #[.string a1, .string a2] 26)).alloc (.cells #[.string b1, .string b2] 26)).alloc (.cells #[.string ⟨#[]⟩, .string ⟨#[]⟩] 26)).alloc (.cells #[.bool false] 110)).alloc (.cells #[.string a1, .string a2, .string b1, .string b2] 26)) (w.heap.size + 1) #[.string b1, .string b2] 26 := (((Blk.newAt _ _ _ (by simp)).alloc _).alloc _).alloc _
 have q2 : Blk (((((w.alloc (.cells #[.string a1, .string a2] 26)).alloc (.cells #[.string b1, .string b2] 26)).alloc (.cells #[.string ⟨#[]⟩, .string ⟨#[]⟩] 26)).alloc (.cells #[.bool false] 110)).alloc (.cells #[.string a1, .string a2, .string b1, .string b2] 26)) (w.heap.size + 2) #[.string ⟨#[]⟩, .string ⟨#[]⟩] 26 := ((Blk.newAt _ _ _ (by simp)).alloc _).alloc _
 have q3 : Wk (((((w.alloc (.cells #[.string a1, .string a2] 26)).alloc (.cells #[.string b1, .string b2] 26)).alloc (.cells #[.string ⟨#[]⟩, .string ⟨#[]⟩] 26)).alloc (.cells #[.bool false] 110)).alloc (.cells #[.string a1, .string a2, .string b1, .string b2] 26)) (w.heap.size + 3) false := (Blk.newAt _ _ _ (by simp)).alloc _
 have q4 : Blk (((((w.alloc (.cells #[.string a1, .string a2] 26)).alloc (.cells #[.string b1, .string b2] 26)).alloc (.cells #[.string ⟨#[]⟩, .string ⟨#[]⟩] 26)).alloc (.cells #[.bool false] 110)).alloc (.cells #[.string a1, .string a2, .string b1, .string b2] 26)) (w.heap.size + 4) #[.string a1, .string a2, .string b1, .string b2] 26 := Blk.newAt _ _ _ (by simp)
 have q5 : Below w.heap.size w (((((w.alloc (.cells #[.string a1, .string a2] 26)).alloc (.cells #[.string b1, .string b2] 26)).alloc (.cells #[.string ⟨#[]⟩, .string ⟨#[]⟩] 26)).alloc (.cells #[.bool false] 110)).alloc (.cells #[.string a1, .string a2, .string b1, .string b2] 26)) := (((((Below.refl _ w).alloc (Nat.le_refl _) _).alloc (by simp) _).alloc (by simp <;> omega) _).alloc (by simp <;> omega) _).alloc (by simp <;> omega) _
 have A0 := Lib.hid q0
 have B0 := Lib.hid q1
 have R0 := Lib.hid q2
 have K0 := Lib.hid q3
 have S0 := Lib.hid q4
 have L0 := Lib.hid q5
 have hA := Hg.out.above (b := w.heap.size + 3) (by omega)
 have Hb := Lib.hid hA
 clear q0 q1 q2 q3 q4 q5 hA
 go_enter Tryz.func98, Tryz.ntmps98
 go_wp2_with fail
 simp only [Nat.add_assoc, Nat.reduceAdd]
 generalize (((((w.alloc (.cells #[.string a1, .string a2] 26)).alloc (.cells #[.string b1, .string b2] 26)).alloc (.cells #[.string ⟨#[]⟩, .string ⟨#[]⟩] 26)).alloc (.cells #[.bool false] 110)).alloc (.cells #[.string a1, .string a2, .string b1, .string b2] 26)) = w0 at *
 refine (check_any [(a1, a2), (b1, b2)] (w.heap.size + 4) _ (w.heap.size + 3) false _ K0.out (rdR2 S0.out) (by omega) (by simp) (Hg.out.below L0.out) Hb.out (sz2 Hz.out.1 Hz.out.2)).mono ?_
 rw [Bool.false_or, Hbd.out]
 rintro e w1 ⟨rfl, k1, g1⟩
 have K1 := Lib.hid k1
 have A1 := Lib.hid (Blk.other A0.out g1 (by omega))
 have B1 := Lib.hid (Blk.other B0.out g1 (by omega))
 have R1 := Lib.hid (Blk.other R0.out g1 (by omega))
 have L1 := Lib.hid (L0.out.trans (below_of_grown g1 (by omega) L0.out.size))
 obtain ⟨a10, a11, _, _, _⟩ := blk2 A1.out
 obtain ⟨b10, b11, _, _, _⟩ := blk2 B1.out
 clear k1 g1
 clear S0
 have hmx : Tryz.prog.follows .mixedOrders = true := by kernel_rfl
 have eg := Hop.out.1
 have M1 : Hid (∀ W, Wk W (w.heap.size + 3) bd → Glob W → Calls Tryz.prog 93 #[.pointer (some ⟨w.heap.size + 3, 0, none⟩), .string a1, .string b2] W (DoPost W (w.heap.size + 3) (x2, d2))) := Lib.hid fun W hk hg => by rw [V2.out]; exact mul_any a1 b2 _ bd W hk (fun _ => hg) Hz.out.1.1 Hz.out.2.2
 have M2 : Hid (∀ W, Wk W (w.heap.size + 3) d2 → Glob W → Calls Tryz.prog 93 #[.pointer (some ⟨w.heap.size + 3, 0, none⟩), .string b1, .string a2] W (DoPost W (w.heap.size + 3) (x3, d3))) := Lib.hid fun W hk hg => by rw [V3.out]; exact mul_any b1 a2 _ d2 W hk (fun _ => hg) Hz.out.2.1 Hz.out.1.2
 have M3 : Hid (∀ W, Wk W (w.heap.size + 3) d3 → Glob W → Calls Tryz.prog 121 #[.pointer (some ⟨w.heap.size + 3, 0, none⟩), .func (.func gf) #[] #[], .string x2, .string x3] W (DoPost W (w.heap.size + 3) (x4, d4))) := Lib.hid fun W hk hg => by
  rw [V4.out]
  cases d3 with
  | false => exact do_any gf f Hop.out x2 x3 _ false W hk (fun _ => hg) (HZ.out rfl).1 (HZ.out rfl).2
  | true => exact do_true gf f x2 x3 _ W hk
 have K1d : Hid (Wk w1.drew (w.heap.size + 3) bd) := Lib.hid K1.out
 have A1d : Hid (Blk w1.drew w.heap.size #[.string a1, .string a2] 26) := Lib.hid A1.out
 have B1d : Hid (Blk w1.drew (w.heap.size + 1) #[.string b1, .string b2] 26) := Lib.hid B1.out
 have R1d : Hid (Blk w1.drew (w.heap.size + 2) #[.string ⟨#[]⟩, .string ⟨#[]⟩] 26) := Lib.hid R1.out
 have L1d : Hid (Below w.heap.size w w1.drew) := Lib.hid L1.out.drew
 clear K1 A1 B1 R1 L1
 go_wp2
 go_region_held3 (fun w' => (w'.cell? ⟨w.heap.size, 0, none⟩ = some (.string a1) ∧ w'.cell? ⟨w.heap.size, 1, none⟩ = some (.string a2)) ∧ (w'.cell? ⟨w.heap.size + 1, 0, none⟩ = some (.string b1) ∧ w'.cell? ⟨w.heap.size + 1, 1, none⟩ = some (.string b2))) (go_keep)
  ((first
    | (go_at_call 93; (with_reducible refine (M1.out _ K1d.out (Hg.out.below L1d.out)).mono ?_)
       rintro e w2 ⟨rfl, k2, g2⟩
       have K2 := Lib.hid k2
       have A2 := Lib.hid (Blk.other A1d.out g2 (by omega))
       have B2 := Lib.hid (Blk.other B1d.out g2 (by omega))
       have R2 := Lib.hid (Blk.other R1d.out g2 (by omega))
       have L2 := Lib.hid (L1d.out.trans (below_of_grown g2 (by omega) L1d.out.size))
       obtain ⟨a20, a21, _, _, _⟩ := blk2 A2.out
       obtain ⟨b20, b21, _, _, _⟩ := blk2 B2.out
       clear k2 g2)
    | (go_at_call 93; (with_reducible refine (M2.out _ K2.out (Hg.out.below L2.out)).mono ?_)
       rintro e w3 ⟨rfl, k3, g3⟩
       have K3 := Lib.hid k3
       have A3 := Lib.hid (Blk.other A2.out g3 (by omega))
       have B3 := Lib.hid (Blk.other B2.out g3 (by omega))
       have R3 := Lib.hid (Blk.other R2.out g3 (by omega))
       have L3 := Lib.hid (L2.out.trans (below_of_grown g3 (by omega) L2.out.size))
       obtain ⟨a30, a31, _, _, _⟩ := blk2 A3.out
       obtain ⟨b30, b31, _, _, _⟩ := blk2 B3.out
       clear k3 g3)
    | (go_at_call 121; (with_reducible refine (M3.out _ K3.out (Hg.out.below L3.out)).mono ?_)
       rintro e w4 ⟨rfl, k4, g4⟩
       have K4 := Lib.hid k4
       have A4 := Lib.hid (Blk.other A3.out g4 (by omega))
       have B4 := Lib.hid (Blk.other B3.out g4 (by omega))
       have R4 := Lib.hid (Blk.other R3.out g4 (by omega))
       have L4 := Lib.hid (L3.out.trans (below_of_grown g4 (by omega) L3.out.size))
       obtain ⟨a40, a41, _, _, _⟩ := blk2 A4.out
       obtain ⟨b40, b41, _, _, _⟩ := blk2 B4.out
       clear k4 g4)))
 go_wp2_with fail
 refine (mul_any a2 b2 (w.heap.size + 3) d4 _ K4.out (fun _ => Hg.out.below L4.out) Hz.out.1.2 Hz.out.2.2).mono ?_
 rw [show doF d4 (iMul a2 b2) = (x5, d5) from V5.out.symm]
 rintro e w5 ⟨rfl, k5, g5⟩
 have K5 := Lib.hid k5
 have A5 := Lib.hid (Blk.other A4.out g5 (by omega))
 have B5 := Lib.hid (Blk.other B4.out g5 (by omega))
 have R5 := Lib.hid (Blk.other R4.out g5 (by omega))
 have L5 := Lib.hid (L4.out.trans (below_of_grown g5 (by omega) L4.out.size))
 obtain ⟨a50, a51, _, _, _⟩ := blk2 A5.out
 obtain ⟨b50, b51, _, _, _⟩ := blk2 B5.out
 clear k5 g5
 go_wp2_with fail
 refine (reduced_any x4 x5 (w.heap.size + 3) d5 _ K5.out (fun h => ⟨(HK.out h).1, (HK.out h).2, Hg.out.below L5.out⟩) Hb.out).mono ?_
 rintro e w6 ⟨rfl, g6⟩
 have R6 := Lib.hid (Blk.other R5.out g6 (by omega))
 have L6 := Lib.hid (L5.out.trans (below_of_grown g6 (by omega) L5.out.size))
 clear g6
 generalize redF d5 x4 x5 = r at *
 obtain ⟨r1, r2, r3, r4, r5⟩ := blk2 R6.out
 obtain ⟨⟨q1, q2⟩, q3⟩ := r
 go_wp2
 skip
 refine bodyPost_ret (v := vRE ((q1, q2), q3)) (by simp [results, Tryz.results98, go_sem, r1, r2, r3, r4, r5]) rfl ⟨rfl, ?_⟩
 exact (L6.out.setCell (by simp) _).setCell (by simp) _
set_option maxRecDepth 100000 in
theorem ratAdd_any (a b : RS) (w : World) (hg : Glob w) (ha : Sz a) (hb : Sz b) : Calls Tryz.prog 61 #[vR a, vR b] w (RatPost (rAdd a b) w) := by
 have H := Lib.hid (fun w hg => ratSum_any _ _ opAdd okAdd a b w hg ha hb)
 rw [sum_add] at H
 obtain ⟨a1, a2⟩ := a
 obtain ⟨b1, b2⟩ := b
 show Calls _ _ #[.agg #[.string a1, .string a2], .agg #[.string b1, .string b2]] _ _
 generalize rAdd (a1, a2) (b1, b2) = r at *
 obtain ⟨⟨q1, q2⟩, q3⟩ := r
 have Hg := Lib.hid hg
 clear hg ha hb
 go_enter Tryz.func61, Tryz.ntmps61
 go_wp2_with fail
 refine (H.out _ (Hg.out.below ((((Below.refl _ w).alloc (Nat.le_refl _) _).alloc (by simp) _).alloc (by simp; omega) _))).mono ?_
 rintro e w1 ⟨rfl, hb1⟩
 have R1 := Lib.hid (Blk.below (Blk.newAt _ #[.string ⟨#[]⟩, .string ⟨#[]⟩] 26 (b := w.heap.size + 1 + 1) (by simp)) hb1 (by simp))
 have L1 := Lib.hid (((((Below.refl _ w).alloc (Nat.le_refl _) _).alloc (by simp) _).alloc (by simp; omega) _).trans (hb1.mono (by simp; omega)))
 clear hb1
 obtain ⟨r1, r2, r3, r4, r5⟩ := blk2 R1.out
 go_wp2
 refine bodyPost_ret (v := vRE ((q1, q2), q3)) (by simp [results, Tryz.results61, go_sem, r1, r2, r3, r4, r5]) rfl ⟨rfl, ?_⟩
 exact (L1.out.setCell (by simp <;> omega) _).setCell (by simp <;> omega) _
set_option maxRecDepth 100000 in
theorem ratSub_any (a b : RS) (w : World) (hg : Glob w) (ha : Sz a) (hb : Sz b) : Calls Tryz.prog 62 #[vR a, vR b] w (RatPost (rSub a b) w) := by
 have H := Lib.hid (fun w hg => ratSum_any _ _ opSub okSub a b w hg ha hb)
 rw [sum_sub] at H
 obtain ⟨a1, a2⟩ := a
 obtain ⟨b1, b2⟩ := b
 show Calls _ _ #[.agg #[.string a1, .string a2], .agg #[.string b1, .string b2]] _ _
 generalize rSub (a1, a2) (b1, b2) = r at *
 obtain ⟨⟨q1, q2⟩, q3⟩ := r
 have Hg := Lib.hid hg
 clear hg ha hb
 go_enter Tryz.func62, Tryz.ntmps62
 go_wp2_with fail
 refine (H.out _ (Hg.out.below ((((Below.refl _ w).alloc (Nat.le_refl _) _).alloc (by simp) _).alloc (by simp; omega) _))).mono ?_
 rintro e w1 ⟨rfl, hb1⟩
 have R1 := Lib.hid (Blk.below (Blk.newAt _ #[.string ⟨#[]⟩, .string ⟨#[]⟩] 26 (b := w.heap.size + 1 + 1) (by simp)) hb1 (by simp))
 have L1 := Lib.hid (((((Below.refl _ w).alloc (Nat.le_refl _) _).alloc (by simp) _).alloc (by simp; omega) _).trans (hb1.mono (by simp; omega)))
 clear hb1
 obtain ⟨r1, r2, r3, r4, r5⟩ := blk2 R1.out
 go_wp2
 refine bodyPost_ret (v := vRE ((q1, q2), q3)) (by simp [results, Tryz.results62, go_sem, r1, r2, r3, r4, r5]) rfl ⟨rfl, ?_⟩
 exact (L1.out.setCell (by simp <;> omega) _).setCell (by simp <;> omega) _
theorem index_slash (l : List UInt8) : Lib.index l [47] = if l.contains 47 then ((l.takeWhile (· != 47)).length : Int) else -1 := by
 induction l with
 | nil => simp [Lib.index]
 | cons a t ih =>
   rw [Lib.index, ih]
   by_cases h : a = 47
   · subst h; simp
   · have h1 : (47 == a) = false := by rw [beq_eq_false_iff_ne]; exact fun e => h e.symm
     have h2 : (a != 47) = true := by simp [h]
     simp only [List.isPrefixOf, h1, Bool.false_and, Bool.false_eq_true, if_false, List.contains_cons, Bool.false_or, List.takeWhile_cons, h2, if_true, List.length_cons]
     by_cases h3 : t.contains 47 = true
     · simp only [h3, if_true]
       rw [if_neg (by rw [beq_iff_eq]; omega)]
       omega
     · simp only [h3, if_false]
       rfl
theorem cut_slash (l : List UInt8) : Lib.cut l [47] = if l.contains 47 then (l.takeWhile (· != 47), (l.dropWhile (· != 47)).tail, true) else (l, [], false) := by
 unfold Lib.cut
 rw [index_slash]
 by_cases h : l.contains 47 = true
 · simp only [h, if_true]
   rw [if_pos (by omega)]
   have e : l = l.takeWhile (· != 47) ++ l.dropWhile (· != 47) := List.takeWhile_append_dropWhile.symm
   have e1 : ((l.takeWhile (· != 47)).length : Int).toNat = (l.takeWhile (· != 47)).length := by omega
   rw [e1]
   refine Prod.ext ?_ (Prod.ext ?_ rfl)
   · show l.take _ = _
     conv => lhs; arg 2; rw [e]
     rw [List.take_left]
   · show l.drop _ = _
     conv => lhs; arg 2; rw [e]
     rw [← List.drop_drop, List.drop_left]
     cases l.dropWhile (· != 47) <;> rfl
 · simp only [h, if_false]
   rfl
theorem libCut (s : ByteArray) (w : World) (hs : s.size ≤ 1000000) (hg : Glob w) : Calls Tryz.prog 85 #[.string s, .string ⟨#[47]⟩] w fun e w' =>
 e = .returned (.tuple #[.string (rOf s).1, .string (if s.data.toList.contains 47 then (rOf s).2 else ByteArray.empty), .bool (s.data.toList.contains 47)]) ∧ Below w.heap.size w w' := by
 obtain ⟨⟨m, hm⟩, _, _⟩ := hg
 refine (Tryz.strings_Cut s ⟨#[47]⟩ m w (by omega) hm).mono ?_
 rintro e w' ⟨rfl, n, rfl⟩
 refine ⟨?_, (Below.refl _ w).drewN n⟩
 rw [show (⟨#[47]⟩ : ByteArray).data.toList = [47] from rfl, cut_slash]
 unfold rOf rSplit
 by_cases h : s.data.toList.contains 47 = true
 · simp only [h, if_true]
 · simp only [h, if_false, Bool.not_eq_true _ ▸ h]
   rfl
theorem libJoin2 (bk : Nat) (x y : ByteArray) (w : World) (h : Blk w bk #[.string x, .string y] 9) (hx : x.size ≤ 1000) (hy : y.size ≤ 1000) :
 Calls Tryz.prog 78 #[.slice (some ⟨bk, 0, none⟩) 2 2, .string ⟨#[47]⟩] w fun e w' => e = .returned (.string ⟨(x.data.toList ++ [47] ++ y.data.toList).toArray⟩) ∧ Below w.heap.size w w' := by
 have hj : Lib.join [x.data.toList, y.data.toList] [47] = x.data.toList ++ [47] ++ y.data.toList := by simp [Lib.join, List.intercalate]
 have := Tryz.strings_Join bk 0 2 [x, y] ⟨#[47]⟩ w (by
  intro j z hz
  rcases j with _ | _ | j
  · simp at hz; subst hz; exact h.cell rfl
  · simp at hz; subst hz; exact h.cell rfl
  · simp at hz) h.lt (by simp) (by simp) (by
    simp only [List.map_cons, List.map_nil]
    rw [hj]
    simp only [List.length_append, ba_len, List.length_singleton]; omega)
 simp only [List.map_cons, List.map_nil] at this
 rw [hj] at this
 exact this
set_option maxRecDepth 100000 in
set_option maxHeartbeats 1000000 in
theorem ratPrint_any (a : RS) (w : World) (hg : Glob w) (ha : Sz a) : Calls Tryz.prog 76 #[vR a] w fun e w' => e = .returned (.string (rPrint a)) ∧ Below w.heap.size w w' := by
 obtain ⟨n, d⟩ := a
 show Calls _ _ #[.agg #[.string n, .string d]] _ _
 have Hg := Lib.hid hg
 have HR : Hid (∀ w1, Below (w.heap.size + 1) (w.alloc (.cells #[.string n, .string d] 26)) w1 → Blk w1 w.heap.size #[.string n, .string d] 26 ∧ Below w.heap.size w w1) :=
  Lib.hid fun w1 h1 => ⟨(Blk.new w _ _).below h1 (by omega), ((Below.refl _ w).alloc (Nat.le_refl _) _).trans (h1.mono (by omega))⟩
 have HV : ∀ v, rV (n, d) = v → Hid (∀ w, Glob w → Calls Tryz.prog 66 #[.agg #[.string n, .string d]] w fun e w' => e = .returned (.bool v) ∧ Below w.heap.size w w') := fun v hv => Lib.hid fun w hg => by
  have := ratValid_any (n, d) w hg ha.1 ha.2; rwa [hv] at this
 cases hv : rV (n, d) with
 | false =>
   rw [rPrint_no hv]
   have V := HV _ hv
   clear HV hv hg ha
   go_enter Tryz.func76, Tryz.ntmps76
   go_wp2_with fail
   refine (V.out _ (Hg.out.below ((Below.refl _ w).alloc (Nat.le_refl _) _))).mono ?_
   rintro e w1 ⟨rfl, hb1⟩
   obtain ⟨r1, hB⟩ := HR.out w1 (by simpa using hb1)
   have HB := Lib.hid hB
   clear hb1 r1 hB
   go_wp2
   go_ret
   exact ⟨rfl, HB.out⟩
 | true =>
   have V := HV _ hv
   obtain ⟨v1, v2, _, _⟩ := rV_parts hv
   simp only at v1 v2
   have Z1 := vS_size v1
   have Z2 := vS_size v2
   have E := eq49 v2
   by_cases h1 : d = ⟨#[49]⟩
   · have hp : rPrint (n, d) = n := rPrint_one hv h1
     rw [hp]
     have t1 : (d.toList == [49]) = true := by rw [E, (nS_one_iff v2).2 h1]; rfl
     clear HV hv hg ha v1 v2 E hp h1
     go_enter Tryz.func76, Tryz.ntmps76
     go_wp2_with fail
     refine (V.out _ (Hg.out.below ((Below.refl _ w).alloc (Nat.le_refl _) _))).mono ?_
     rintro e w1 ⟨rfl, hb1⟩
     obtain ⟨r1, hB⟩ := HR.out w1 (by simpa using hb1)
     have HB := Lib.hid hB
     obtain ⟨c1, c2, _, _, _⟩ := blk2 r1
     clear hb1 r1 hB
     go_wp2
     go_ret
     exact ⟨rfl, HB.out⟩
   · have hp : rPrint (n, d) = ⟨(n.data.toList ++ [47] ++ d.data.toList).toArray⟩ := rPrint_two hv h1
     rw [hp]
     have t1 : (d.toList == [49]) = false := by rw [E]; simp only [decide_eq_false_iff_not]; exact fun e => h1 ((nS_one_iff v2).1 e)
     have HJ := Lib.hid (fun bk w h => libJoin2 bk n d w h (by omega) (by omega))
     generalize (⟨(n.data.toList ++ [47] ++ d.data.toList).toArray⟩ : ByteArray) = txt at *
     clear HV hv hg ha v1 v2 E hp h1
     go_enter Tryz.func76, Tryz.ntmps76
     go_wp2_with fail
     refine (V.out _ (Hg.out.below ((Below.refl _ w).alloc (Nat.le_refl _) _))).mono ?_
     rintro e w1 ⟨rfl, hb1⟩
     obtain ⟨r1, hB⟩ := HR.out w1 (by simpa using hb1)
     have HB := Lib.hid hB
     obtain ⟨c1, c2, _, _, _⟩ := blk2 r1
     clear hb1 r1 hB
     go_wp2_with fail
     refine (HJ.out _ _ (Blk.new w1 _ _)).mono ?_
     rintro e w2 ⟨rfl, hb2⟩
     have HB2 := Lib.hid ((HB.out.alloc HB.out.size _).trans (hb2.mono (by simp; have := HB.out.size; omega)))
     clear hb2
     go_wp2
     go_ret
     exact ⟨rfl, HB2.out⟩
theorem empty_iff (s : ByteArray) : s.toList.isEmpty = decide (s = ByteArray.empty) := by
 rw [ba_toList, Bool.eq_iff_iff, List.isEmpty_iff, decide_eq_true_eq]
 constructor
 · intro h; exact ba_ext (by rw [h]; rfl)
 · intro h; rw [h]; rfl
theorem rOf_size (s : ByteArray) : (rOf s).1.size ≤ s.size ∧ (rOf s).2.size ≤ s.size + 1 := by
 rw [← ba_len (rOf s).1, ← ba_len (rOf s).2, ← ba_len s]
 unfold rOf rSplit
 by_cases h : s.data.toList.contains 47 = true
 · simp only [h, if_true, List.toList_toArray]
   have h1 := (List.takeWhile_sublist (· != 47) (l := s.data.toList)).length_le
   have h2 := (List.dropWhile_sublist (· != 47) (l := s.data.toList)).length_le
   refine ⟨h1, ?_⟩
   rw [List.length_tail]; omega
 · simp only [h, if_false, List.toList_toArray]
   simp
theorem rOf_one {s : ByteArray} (h : s.data.toList.contains 47 = false) : (rOf s).2 = ⟨#[49]⟩ := by
 unfold rOf rSplit
 rw [if_neg (by rw [h]; simp)]
theorem rParse_err1 {s : ByteArray} (h : rPrint (rOf s) ≠ s) : rParse s = (noR, 40) := by unfold rParse; rw [if_neg (by simp [h])]
theorem rParse_err2 {s : ByteArray} (h : s = ByteArray.empty) : rParse s = (noR, 40) := by subst h; exact rParse_empty
theorem rParse_yes {s : ByteArray} (h : rPrint (rOf s) = s) (h0 : s ≠ ByteArray.empty) : rParse s = (rOf s, 0) := by
 unfold rParse
 rw [if_pos]
 cases hv : rV (rOf s) with
 | true => simp [h]
 | false => rw [rPrint_no hv] at h; exact absurd h.symm h0
theorem toList_beq (a b : ByteArray) : (a.toList == b.toList) = decide (a = b) := by
 rw [ba_toList, ba_toList, Bool.eq_iff_iff, beq_iff_eq, decide_eq_true_eq]
 exact ⟨fun h => ba_ext h, fun h => by rw [h]⟩
set_option maxRecDepth 100000 in
set_option maxHeartbeats 1000000 in
theorem ratParse_yes_true (s : ByteArray) (his : s.data.toList.contains 47 = true) (h1 : rPrint (rOf s) = s) (h0 : s ≠ ByteArray.empty) (w : World) (hg : Glob w) (hs : s.size ≤ 100000) : Calls Tryz.prog 84 #[.string s] w (RatPost (rParse s) w) := by
 have Hg := Lib.hid hg
 have HC := Lib.hid (fun w hg => libCut s w (by omega) hg)
 have hz := rOf_size s
 have HP := Lib.hid (fun w hg => ratPrint_any (rOf s) w hg ⟨by unfold maxLen; omega, by unfold maxLen; omega⟩)
 rw [rParse_yes h1 h0]
 have hpr := h1
 have h0x := h0
 clear h1 h0
 rw [his] at HC
 obtain ⟨⟨n, d⟩, hr⟩ : ∃ r, rOf s = r := ⟨_, rfl⟩
 rw [hr] at HC HP hz hpr ⊢
 skip
 generalize rPrint (n, d) = tp at *
 simp only [if_true] at HC
 have t1 : (tp.toList == s.toList) = true := by rw [toList_beq, hpr]; simp
 have t2 : s.toList.isEmpty = false := by rw [empty_iff]; simp [h0x]
 clear hg hs hz his hr hpr h0x
 go_enter Tryz.func84, Tryz.ntmps84
 go_wp2_with fail
 refine (HC.out _ (Hg.out.below (((Below.refl _ w).alloc (Nat.le_refl _) _).alloc (by simp) _))).mono ?_
 rintro e w1 ⟨rfl, hb1⟩
 have R1 := Lib.hid (Blk.below (Blk.alloc (Blk.new w #[.string ⟨#[]⟩, .string ⟨#[]⟩] 26) (.cells #[.string ⟨#[]⟩, .string ⟨#[49]⟩] 26)) hb1 (by simp <;> omega))
 have N1 := Lib.hid (Blk.below (Blk.newAt (w.alloc (.cells #[.string ⟨#[]⟩, .string ⟨#[]⟩] 26)) #[.string ⟨#[]⟩, .string ⟨#[49]⟩] 26 (b := w.heap.size + 1) (by simp)) hb1 (by simp))
 have L1 := Lib.hid ((((Below.refl _ w).alloc (Nat.le_refl _) _).alloc (by simp) _).trans (hb1.mono (by simp; omega)))
 clear hb1
 obtain ⟨n1, n2, n3, n4, n5⟩ := blk2 N1.out
 go_wp2_with fail
 have N2 : Hid (Blk ((w1.setCell ⟨w.heap.size + 1, 0, none⟩ (.string n)).setCell ⟨w.heap.size + 1, 1, none⟩ (.string d)) (w.heap.size + 1) #[.string n, .string d] 26) := Lib.hid ((Blk.set N1.out 0 (.string n)).set 1 (.string d))
 have R2 : Hid (Blk ((w1.setCell ⟨w.heap.size + 1, 0, none⟩ (.string n)).setCell ⟨w.heap.size + 1, 1, none⟩ (.string d)) w.heap.size #[.string ⟨#[]⟩, .string ⟨#[]⟩] 26) := Lib.hid ((Blk.setOther R1.out (a := ⟨w.heap.size + 1, 0, none⟩) (by simp) _).setOther (a := ⟨w.heap.size + 1, 1, none⟩) (by simp) _)
 have L2 : Hid (Below w.heap.size w ((w1.setCell ⟨w.heap.size + 1, 0, none⟩ (.string n)).setCell ⟨w.heap.size + 1, 1, none⟩ (.string d))) := Lib.hid ((L1.out.setCell (p := ⟨w.heap.size + 1, 0, none⟩) (by simp) _).setCell (p := ⟨w.heap.size + 1, 1, none⟩) (by simp) _)
 refine (HP.out _ (Hg.out.below L2.out)).mono ?_
 rintro e w3 ⟨rfl, hb3⟩
 have R3 := Lib.hid (Blk.below R2.out hb3 R2.out.lt)
 have N3 := Lib.hid (Blk.below N2.out hb3 N2.out.lt)
 have L3 := Lib.hid (L2.out.trans (hb3.mono L2.out.size))
 clear hb3
 obtain ⟨m1, m2, m3, m4, m5⟩ := blk2 N3.out
 obtain ⟨r1, r2, r3, r4, r5⟩ := blk2 R3.out
 go_wp2
 refine bodyPost_ret (v := vRE ((n, d), 0)) (by simp [results, Tryz.results84, go_sem, r1, r2, r3, r4, r5, m1, m2]) rfl ⟨rfl, ?_⟩
 exact (L3.out.setCell (by simp) _).setCell (by simp) _
set_option maxRecDepth 100000 in
set_option maxHeartbeats 1000000 in
theorem ratParse_err1_true (s : ByteArray) (his : s.data.toList.contains 47 = true) (h1 : rPrint (rOf s) ≠ s) (w : World) (hg : Glob w) (hs : s.size ≤ 100000) : Calls Tryz.prog 84 #[.string s] w (RatPost (rParse s) w) := by
 have Hg := Lib.hid hg
 have HC := Lib.hid (fun w hg => libCut s w (by omega) hg)
 have hz := rOf_size s
 have HP := Lib.hid (fun w hg => ratPrint_any (rOf s) w hg ⟨by unfold maxLen; omega, by unfold maxLen; omega⟩)
 rw [rParse_err1 h1]
 have hpr := h1
 have h0x := trivial
 clear h1
 rw [his] at HC
 obtain ⟨⟨n, d⟩, hr⟩ : ∃ r, rOf s = r := ⟨_, rfl⟩
 rw [hr] at HC HP hz hpr
 skip
 generalize rPrint (n, d) = tp at *
 simp only [if_true] at HC
 have t1 : (tp.toList == s.toList) = false := by rw [toList_beq]; simp [hpr]
 clear hg hs hz his hr hpr h0x
 go_enter Tryz.func84, Tryz.ntmps84
 go_wp2_with fail
 refine (HC.out _ (Hg.out.below (((Below.refl _ w).alloc (Nat.le_refl _) _).alloc (by simp) _))).mono ?_
 rintro e w1 ⟨rfl, hb1⟩
 have R1 := Lib.hid (Blk.below (Blk.alloc (Blk.new w #[.string ⟨#[]⟩, .string ⟨#[]⟩] 26) (.cells #[.string ⟨#[]⟩, .string ⟨#[49]⟩] 26)) hb1 (by simp <;> omega))
 have N1 := Lib.hid (Blk.below (Blk.newAt (w.alloc (.cells #[.string ⟨#[]⟩, .string ⟨#[]⟩] 26)) #[.string ⟨#[]⟩, .string ⟨#[49]⟩] 26 (b := w.heap.size + 1) (by simp)) hb1 (by simp))
 have L1 := Lib.hid ((((Below.refl _ w).alloc (Nat.le_refl _) _).alloc (by simp) _).trans (hb1.mono (by simp; omega)))
 clear hb1
 obtain ⟨n1, n2, n3, n4, n5⟩ := blk2 N1.out
 go_wp2_with fail
 have N2 : Hid (Blk ((w1.setCell ⟨w.heap.size + 1, 0, none⟩ (.string n)).setCell ⟨w.heap.size + 1, 1, none⟩ (.string d)) (w.heap.size + 1) #[.string n, .string d] 26) := Lib.hid ((Blk.set N1.out 0 (.string n)).set 1 (.string d))
 have R2 : Hid (Blk ((w1.setCell ⟨w.heap.size + 1, 0, none⟩ (.string n)).setCell ⟨w.heap.size + 1, 1, none⟩ (.string d)) w.heap.size #[.string ⟨#[]⟩, .string ⟨#[]⟩] 26) := Lib.hid ((Blk.setOther R1.out (a := ⟨w.heap.size + 1, 0, none⟩) (by simp) _).setOther (a := ⟨w.heap.size + 1, 1, none⟩) (by simp) _)
 have L2 : Hid (Below w.heap.size w ((w1.setCell ⟨w.heap.size + 1, 0, none⟩ (.string n)).setCell ⟨w.heap.size + 1, 1, none⟩ (.string d))) := Lib.hid ((L1.out.setCell (p := ⟨w.heap.size + 1, 0, none⟩) (by simp) _).setCell (p := ⟨w.heap.size + 1, 1, none⟩) (by simp) _)
 refine (HP.out _ (Hg.out.below L2.out)).mono ?_
 rintro e w3 ⟨rfl, hb3⟩
 have R3 := Lib.hid (Blk.below R2.out hb3 R2.out.lt)
 have N3 := Lib.hid (Blk.below N2.out hb3 N2.out.lt)
 have L3 := Lib.hid (L2.out.trans (hb3.mono L2.out.size))
 clear hb3
 obtain ⟨m1, m2, m3, m4, m5⟩ := blk2 N3.out
 obtain ⟨r1, r2, r3, r4, r5⟩ := blk2 R3.out
 go_wp2
 refine bodyPost_ret (v := vRE (noR, 40)) (by simp [results, Tryz.results84, go_sem, noR, r1, r2, r3, r4, r5, m1, m2]; rfl) rfl ⟨rfl, ?_⟩
 exact (L3.out.setCell (by simp) _).setCell (by simp) _
set_option maxRecDepth 100000 in
set_option maxHeartbeats 1000000 in
theorem ratParse_err2_true (s : ByteArray) (his : s.data.toList.contains 47 = true) (h1 : rPrint (rOf s) = s) (h0 : s = ByteArray.empty) (w : World) (hg : Glob w) (hs : s.size ≤ 100000) : Calls Tryz.prog 84 #[.string s] w (RatPost (rParse s) w) := by
 have Hg := Lib.hid hg
 have HC := Lib.hid (fun w hg => libCut s w (by omega) hg)
 have hz := rOf_size s
 have HP := Lib.hid (fun w hg => ratPrint_any (rOf s) w hg ⟨by unfold maxLen; omega, by unfold maxLen; omega⟩)
 rw [rParse_err2 h0]
 have hpr := h1
 have h0x := h0
 clear h1 h0
 rw [his] at HC
 obtain ⟨⟨n, d⟩, hr⟩ : ∃ r, rOf s = r := ⟨_, rfl⟩
 rw [hr] at HC HP hz hpr
 skip
 generalize rPrint (n, d) = tp at *
 simp only [if_true] at HC
 have t1 : (tp.toList == s.toList) = true := by rw [toList_beq, hpr]; simp
 have t2 : s.toList.isEmpty = true := by rw [empty_iff]; simp [h0x]
 clear hg hs hz his hr hpr h0x
 go_enter Tryz.func84, Tryz.ntmps84
 go_wp2_with fail
 refine (HC.out _ (Hg.out.below (((Below.refl _ w).alloc (Nat.le_refl _) _).alloc (by simp) _))).mono ?_
 rintro e w1 ⟨rfl, hb1⟩
 have R1 := Lib.hid (Blk.below (Blk.alloc (Blk.new w #[.string ⟨#[]⟩, .string ⟨#[]⟩] 26) (.cells #[.string ⟨#[]⟩, .string ⟨#[49]⟩] 26)) hb1 (by simp <;> omega))
 have N1 := Lib.hid (Blk.below (Blk.newAt (w.alloc (.cells #[.string ⟨#[]⟩, .string ⟨#[]⟩] 26)) #[.string ⟨#[]⟩, .string ⟨#[49]⟩] 26 (b := w.heap.size + 1) (by simp)) hb1 (by simp))
 have L1 := Lib.hid ((((Below.refl _ w).alloc (Nat.le_refl _) _).alloc (by simp) _).trans (hb1.mono (by simp; omega)))
 clear hb1
 obtain ⟨n1, n2, n3, n4, n5⟩ := blk2 N1.out
 go_wp2_with fail
 have N2 : Hid (Blk ((w1.setCell ⟨w.heap.size + 1, 0, none⟩ (.string n)).setCell ⟨w.heap.size + 1, 1, none⟩ (.string d)) (w.heap.size + 1) #[.string n, .string d] 26) := Lib.hid ((Blk.set N1.out 0 (.string n)).set 1 (.string d))
 have R2 : Hid (Blk ((w1.setCell ⟨w.heap.size + 1, 0, none⟩ (.string n)).setCell ⟨w.heap.size + 1, 1, none⟩ (.string d)) w.heap.size #[.string ⟨#[]⟩, .string ⟨#[]⟩] 26) := Lib.hid ((Blk.setOther R1.out (a := ⟨w.heap.size + 1, 0, none⟩) (by simp) _).setOther (a := ⟨w.heap.size + 1, 1, none⟩) (by simp) _)
 have L2 : Hid (Below w.heap.size w ((w1.setCell ⟨w.heap.size + 1, 0, none⟩ (.string n)).setCell ⟨w.heap.size + 1, 1, none⟩ (.string d))) := Lib.hid ((L1.out.setCell (p := ⟨w.heap.size + 1, 0, none⟩) (by simp) _).setCell (p := ⟨w.heap.size + 1, 1, none⟩) (by simp) _)
 refine (HP.out _ (Hg.out.below L2.out)).mono ?_
 rintro e w3 ⟨rfl, hb3⟩
 have R3 := Lib.hid (Blk.below R2.out hb3 R2.out.lt)
 have N3 := Lib.hid (Blk.below N2.out hb3 N2.out.lt)
 have L3 := Lib.hid (L2.out.trans (hb3.mono L2.out.size))
 clear hb3
 obtain ⟨m1, m2, m3, m4, m5⟩ := blk2 N3.out
 obtain ⟨r1, r2, r3, r4, r5⟩ := blk2 R3.out
 go_wp2
 refine bodyPost_ret (v := vRE (noR, 40)) (by simp [results, Tryz.results84, go_sem, noR, r1, r2, r3, r4, r5, m1, m2]; rfl) rfl ⟨rfl, ?_⟩
 exact (L3.out.setCell (by simp) _).setCell (by simp) _
set_option maxRecDepth 100000 in
set_option maxHeartbeats 1000000 in
theorem ratParse_yes_false (s : ByteArray) (his : s.data.toList.contains 47 = false) (h1 : rPrint (rOf s) = s) (h0 : s ≠ ByteArray.empty) (w : World) (hg : Glob w) (hs : s.size ≤ 100000) : Calls Tryz.prog 84 #[.string s] w (RatPost (rParse s) w) := by
 have Hg := Lib.hid hg
 have HC := Lib.hid (fun w hg => libCut s w (by omega) hg)
 have hz := rOf_size s
 have HP := Lib.hid (fun w hg => ratPrint_any (rOf s) w hg ⟨by unfold maxLen; omega, by unfold maxLen; omega⟩)
 have hone := rOf_one his
 rw [rParse_yes h1 h0]
 have hpr := h1
 have h0x := h0
 clear h1 h0
 rw [his] at HC
 obtain ⟨⟨n, d⟩, hr⟩ : ∃ r, rOf s = r := ⟨_, rfl⟩
 rw [hr] at HC HP hz hone hpr ⊢
 simp only at hone; subst hone
 generalize rPrint (n, ⟨#[49]⟩) = tp at *
 simp only [Bool.false_eq_true, if_false] at HC
 have t1 : (tp.toList == s.toList) = true := by rw [toList_beq, hpr]; simp
 have t2 : s.toList.isEmpty = false := by rw [empty_iff]; simp [h0x]
 clear hg hs hz his hr hpr h0x
 go_enter Tryz.func84, Tryz.ntmps84
 go_wp2_with fail
 refine (HC.out _ (Hg.out.below (((Below.refl _ w).alloc (Nat.le_refl _) _).alloc (by simp) _))).mono ?_
 rintro e w1 ⟨rfl, hb1⟩
 have R1 := Lib.hid (Blk.below (Blk.alloc (Blk.new w #[.string ⟨#[]⟩, .string ⟨#[]⟩] 26) (.cells #[.string ⟨#[]⟩, .string ⟨#[49]⟩] 26)) hb1 (by simp <;> omega))
 have N1 := Lib.hid (Blk.below (Blk.newAt (w.alloc (.cells #[.string ⟨#[]⟩, .string ⟨#[]⟩] 26)) #[.string ⟨#[]⟩, .string ⟨#[49]⟩] 26 (b := w.heap.size + 1) (by simp)) hb1 (by simp))
 have L1 := Lib.hid ((((Below.refl _ w).alloc (Nat.le_refl _) _).alloc (by simp) _).trans (hb1.mono (by simp; omega)))
 clear hb1
 obtain ⟨n1, n2, n3, n4, n5⟩ := blk2 N1.out
 go_wp2_with fail
 have N2 : Hid (Blk (w1.setCell ⟨w.heap.size + 1, 0, none⟩ (.string n)) (w.heap.size + 1) #[.string n, .string ⟨#[49]⟩] 26) := Lib.hid (Blk.set N1.out 0 (.string n))
 have R2 : Hid (Blk (w1.setCell ⟨w.heap.size + 1, 0, none⟩ (.string n)) w.heap.size #[.string ⟨#[]⟩, .string ⟨#[]⟩] 26) := Lib.hid (Blk.setOther R1.out (a := ⟨w.heap.size + 1, 0, none⟩) (by simp) _)
 have L2 : Hid (Below w.heap.size w (w1.setCell ⟨w.heap.size + 1, 0, none⟩ (.string n))) := Lib.hid (L1.out.setCell (p := ⟨w.heap.size + 1, 0, none⟩) (by simp) _)
 refine (HP.out _ (Hg.out.below L2.out)).mono ?_
 rintro e w3 ⟨rfl, hb3⟩
 have R3 := Lib.hid (Blk.below R2.out hb3 R2.out.lt)
 have N3 := Lib.hid (Blk.below N2.out hb3 N2.out.lt)
 have L3 := Lib.hid (L2.out.trans (hb3.mono L2.out.size))
 clear hb3
 obtain ⟨m1, m2, m3, m4, m5⟩ := blk2 N3.out
 obtain ⟨r1, r2, r3, r4, r5⟩ := blk2 R3.out
 go_wp2
 refine bodyPost_ret (v := vRE ((n, ⟨#[49]⟩), 0)) (by simp [results, Tryz.results84, go_sem, r1, r2, r3, r4, r5, m1, m2]) rfl ⟨rfl, ?_⟩
 exact (L3.out.setCell (by simp) _).setCell (by simp) _
set_option maxRecDepth 100000 in
set_option maxHeartbeats 1000000 in
theorem ratParse_err1_false (s : ByteArray) (his : s.data.toList.contains 47 = false) (h1 : rPrint (rOf s) ≠ s) (w : World) (hg : Glob w) (hs : s.size ≤ 100000) : Calls Tryz.prog 84 #[.string s] w (RatPost (rParse s) w) := by
 have Hg := Lib.hid hg
 have HC := Lib.hid (fun w hg => libCut s w (by omega) hg)
 have hz := rOf_size s
 have HP := Lib.hid (fun w hg => ratPrint_any (rOf s) w hg ⟨by unfold maxLen; omega, by unfold maxLen; omega⟩)
 have hone := rOf_one his
 rw [rParse_err1 h1]
 have hpr := h1
 have h0x := trivial
 clear h1
 rw [his] at HC
 obtain ⟨⟨n, d⟩, hr⟩ : ∃ r, rOf s = r := ⟨_, rfl⟩
 rw [hr] at HC HP hz hone hpr
 simp only at hone; subst hone
 generalize rPrint (n, ⟨#[49]⟩) = tp at *
 simp only [Bool.false_eq_true, if_false] at HC
 have t1 : (tp.toList == s.toList) = false := by rw [toList_beq]; simp [hpr]
 clear hg hs hz his hr hpr h0x
 go_enter Tryz.func84, Tryz.ntmps84
 go_wp2_with fail
 refine (HC.out _ (Hg.out.below (((Below.refl _ w).alloc (Nat.le_refl _) _).alloc (by simp) _))).mono ?_
 rintro e w1 ⟨rfl, hb1⟩
 have R1 := Lib.hid (Blk.below (Blk.alloc (Blk.new w #[.string ⟨#[]⟩, .string ⟨#[]⟩] 26) (.cells #[.string ⟨#[]⟩, .string ⟨#[49]⟩] 26)) hb1 (by simp <;> omega))
 have N1 := Lib.hid (Blk.below (Blk.newAt (w.alloc (.cells #[.string ⟨#[]⟩, .string ⟨#[]⟩] 26)) #[.string ⟨#[]⟩, .string ⟨#[49]⟩] 26 (b := w.heap.size + 1) (by simp)) hb1 (by simp))
 have L1 := Lib.hid ((((Below.refl _ w).alloc (Nat.le_refl _) _).alloc (by simp) _).trans (hb1.mono (by simp; omega)))
 clear hb1
 obtain ⟨n1, n2, n3, n4, n5⟩ := blk2 N1.out
 go_wp2_with fail
 have N2 : Hid (Blk (w1.setCell ⟨w.heap.size + 1, 0, none⟩ (.string n)) (w.heap.size + 1) #[.string n, .string ⟨#[49]⟩] 26) := Lib.hid (Blk.set N1.out 0 (.string n))
 have R2 : Hid (Blk (w1.setCell ⟨w.heap.size + 1, 0, none⟩ (.string n)) w.heap.size #[.string ⟨#[]⟩, .string ⟨#[]⟩] 26) := Lib.hid (Blk.setOther R1.out (a := ⟨w.heap.size + 1, 0, none⟩) (by simp) _)
 have L2 : Hid (Below w.heap.size w (w1.setCell ⟨w.heap.size + 1, 0, none⟩ (.string n))) := Lib.hid (L1.out.setCell (p := ⟨w.heap.size + 1, 0, none⟩) (by simp) _)
 refine (HP.out _ (Hg.out.below L2.out)).mono ?_
 rintro e w3 ⟨rfl, hb3⟩
 have R3 := Lib.hid (Blk.below R2.out hb3 R2.out.lt)
 have N3 := Lib.hid (Blk.below N2.out hb3 N2.out.lt)
 have L3 := Lib.hid (L2.out.trans (hb3.mono L2.out.size))
 clear hb3
 obtain ⟨m1, m2, m3, m4, m5⟩ := blk2 N3.out
 obtain ⟨r1, r2, r3, r4, r5⟩ := blk2 R3.out
 go_wp2
 refine bodyPost_ret (v := vRE (noR, 40)) (by simp [results, Tryz.results84, go_sem, noR, r1, r2, r3, r4, r5, m1, m2]; rfl) rfl ⟨rfl, ?_⟩
 exact (L3.out.setCell (by simp) _).setCell (by simp) _
set_option maxRecDepth 100000 in
set_option maxHeartbeats 1000000 in
theorem ratParse_err2_false (s : ByteArray) (his : s.data.toList.contains 47 = false) (h1 : rPrint (rOf s) = s) (h0 : s = ByteArray.empty) (w : World) (hg : Glob w) (hs : s.size ≤ 100000) : Calls Tryz.prog 84 #[.string s] w (RatPost (rParse s) w) := by
 have Hg := Lib.hid hg
 have HC := Lib.hid (fun w hg => libCut s w (by omega) hg)
 have hz := rOf_size s
 have HP := Lib.hid (fun w hg => ratPrint_any (rOf s) w hg ⟨by unfold maxLen; omega, by unfold maxLen; omega⟩)
 have hone := rOf_one his
 rw [rParse_err2 h0]
 have hpr := h1
 have h0x := h0
 clear h1 h0
 rw [his] at HC
 obtain ⟨⟨n, d⟩, hr⟩ : ∃ r, rOf s = r := ⟨_, rfl⟩
 rw [hr] at HC HP hz hone hpr
 simp only at hone; subst hone
 generalize rPrint (n, ⟨#[49]⟩) = tp at *
 simp only [Bool.false_eq_true, if_false] at HC
 have t1 : (tp.toList == s.toList) = true := by rw [toList_beq, hpr]; simp
 have t2 : s.toList.isEmpty = true := by rw [empty_iff]; simp [h0x]
 clear hg hs hz his hr hpr h0x
 go_enter Tryz.func84, Tryz.ntmps84
 go_wp2_with fail
 refine (HC.out _ (Hg.out.below (((Below.refl _ w).alloc (Nat.le_refl _) _).alloc (by simp) _))).mono ?_
 rintro e w1 ⟨rfl, hb1⟩
 have R1 := Lib.hid (Blk.below (Blk.alloc (Blk.new w #[.string ⟨#[]⟩, .string ⟨#[]⟩] 26) (.cells #[.string ⟨#[]⟩, .string ⟨#[49]⟩] 26)) hb1 (by simp <;> omega))
 have N1 := Lib.hid (Blk.below (Blk.newAt (w.alloc (.cells #[.string ⟨#[]⟩, .string ⟨#[]⟩] 26)) #[.string ⟨#[]⟩, .string ⟨#[49]⟩] 26 (b := w.heap.size + 1) (by simp)) hb1 (by simp))
 have L1 := Lib.hid ((((Below.refl _ w).alloc (Nat.le_refl _) _).alloc (by simp) _).trans (hb1.mono (by simp; omega)))
 clear hb1
 obtain ⟨n1, n2, n3, n4, n5⟩ := blk2 N1.out
 go_wp2_with fail
 have N2 : Hid (Blk (w1.setCell ⟨w.heap.size + 1, 0, none⟩ (.string n)) (w.heap.size + 1) #[.string n, .string ⟨#[49]⟩] 26) := Lib.hid (Blk.set N1.out 0 (.string n))
 have R2 : Hid (Blk (w1.setCell ⟨w.heap.size + 1, 0, none⟩ (.string n)) w.heap.size #[.string ⟨#[]⟩, .string ⟨#[]⟩] 26) := Lib.hid (Blk.setOther R1.out (a := ⟨w.heap.size + 1, 0, none⟩) (by simp) _)
 have L2 : Hid (Below w.heap.size w (w1.setCell ⟨w.heap.size + 1, 0, none⟩ (.string n))) := Lib.hid (L1.out.setCell (p := ⟨w.heap.size + 1, 0, none⟩) (by simp) _)
 refine (HP.out _ (Hg.out.below L2.out)).mono ?_
 rintro e w3 ⟨rfl, hb3⟩
 have R3 := Lib.hid (Blk.below R2.out hb3 R2.out.lt)
 have N3 := Lib.hid (Blk.below N2.out hb3 N2.out.lt)
 have L3 := Lib.hid (L2.out.trans (hb3.mono L2.out.size))
 clear hb3
 obtain ⟨m1, m2, m3, m4, m5⟩ := blk2 N3.out
 obtain ⟨r1, r2, r3, r4, r5⟩ := blk2 R3.out
 go_wp2
 refine bodyPost_ret (v := vRE (noR, 40)) (by simp [results, Tryz.results84, go_sem, noR, r1, r2, r3, r4, r5, m1, m2]; rfl) rfl ⟨rfl, ?_⟩
 exact (L3.out.setCell (by simp) _).setCell (by simp) _
theorem ratParse_any (s : ByteArray) (w : World) (hg : Glob w) (hs : s.size ≤ 100000) : Calls Tryz.prog 84 #[.string s] w (RatPost (rParse s) w) := by
 by_cases h1 : rPrint (rOf s) = s
 · by_cases h0 : s = ByteArray.empty
   · cases his : s.data.toList.contains 47 with
     | true => exact ratParse_err2_true s his h1 h0 w hg hs
     | false => exact ratParse_err2_false s his h1 h0 w hg hs
   · cases his : s.data.toList.contains 47 with
     | true => exact ratParse_yes_true s his h1 h0 w hg hs
     | false => exact ratParse_yes_false s his h1 h0 w hg hs
 · cases his : s.data.toList.contains 47 with
   | true => exact ratParse_err1_true s his h1 w hg hs
   | false => exact ratParse_err1_false s his h1 w hg hs
theorem ratValid_is {a : RS} {v : Bool} (h : rV a = v) (w : World) (hg : Glob w) (hs : Sz a) : Calls Tryz.prog 66 #[.agg #[.string a.1, .string a.2]] w fun e w' => e = .returned (.bool v) ∧ Below w.heap.size w w' := by
 have := ratValid_any a w hg hs.1 hs.2; rwa [h] at this
def CmpJ (a1 a2 b1 b2 : ByteArray) (w : World) (res : Int) (a : Act) (W : World) : Prop :=
 ∃ (s : Int) (n d m c : ByteArray) (u6 u7 u8 u9 u10 u11 u12 u13 u14 u15 u16 u17 u18 u19 u20 u21 u22 u23 u24 u25 u26 u27 u28 u29 u30 u31 u32 u33 u34 u35 u36 u37 u38 u39 u40 u41 u42 u43 u44 u45 u46 u47 u48 u49 u50 u51 u52 u53 u54 u55 u56 u57 u58 u59 u60 u61 u62 u63 u64 u65 u66 u67 u68 u69 u70 u71 u72 u73 : Value), a = { tmps := #[.agg #[.string a1, .string a2], .agg #[.string b1, .string b2], .pointer (some ⟨w.heap.size, 0, none⟩), .pointer (some ⟨w.heap.size + 1, 0, none⟩), .int .i64 0, .int .i64 s, u6, u7, u8, u9, u10, u11, u12, u13, u14, u15, u16, u17, u18, u19, u20, u21, u22, u23, u24, u25, u26, u27, u28, u29, u30, u31, u32, u33, u34, u35, u36, u37, u38, u39, u40, u41, u42, u43, u44, u45, u46, u47, u48, u49, u50, u51, u52, u53, u54, u55, u56, u57, u58, u59, u60, u61, u62, u63, u64, u65, u66, u67, u68, u69, u70, u71, u72, u73], defers := [] } ∧
  ((s = 1 ∨ s = -1) ∧ (vS n = true ∧ vS d = true ∧ vS m = true ∧ vS c = true) ∧ 0 < nS d ∧ 0 < nS c ∧ s * cmpI (nS n * nS c) (nS m * nS d) = res) ∧
  (Blk W w.heap.size #[.string n, .string d] 26 ∧ Blk W (w.heap.size + 1) #[.string m, .string c] 26) ∧ Below w.heap.size w W
def cmpM (h : Nat) (W : World) : Nat := match W.cell? ⟨h, 1, none⟩ with | some (.string d) => (nS d).natAbs | _ => 0
theorem cmpI_zero {x y : Int} : cmpI x y = 0 ↔ x = y := by
 unfold cmpI
 constructor
 · intro h; split at h
   · omega
   · split at h <;> omega
 · intro h; subst h; simp
theorem cmpI_range (x y : Int) : cmpI x y = -1 ∨ cmpI x y = 0 ∨ cmpI x y = 1 := by
 unfold cmpI; split
 · exact .inl rfl
 · split
   · exact .inr (.inr rfl)
   · exact .inr (.inl rfl)
theorem cmp_round {n d m c s res : Int} (hd : 0 < d) (hc : 0 < c) (h : s * cmpI (n * c) (m * d) = res) :
 (cmpI (n / d) (m / c) ≠ 0 → s * cmpI (n / d) (m / c) = res) ∧
 (cmpI (n / d) (m / c) = 0 → (n % d = 0 → m % c = 0 → res = 0) ∧ (n % d = 0 → m % c ≠ 0 → res = -s) ∧ (n % d ≠ 0 → m % c = 0 → res = s) ∧
   (n % d ≠ 0 → m % c ≠ 0 → -s * cmpI (d * (m % c)) (c * (n % d)) = res ∧ 0 < n % d ∧ 0 < m % c ∧ (n % d).natAbs < d.natAbs)) := by
 have b1 := Int.emod_nonneg n (show d ≠ 0 by omega)
 have b2 := Int.emod_lt_of_pos n hd
 have b3 := Int.emod_nonneg m (show c ≠ 0 by omega)
 constructor
 · intro h0
   rw [← h, cmp_whole hd hc (fun e => h0 (cmpI_zero.2 e))]
 · intro h0
   have e := cmpI_zero.1 h0
   rw [cmp_rest hd hc e] at h
   refine ⟨fun h1 h2 => ?_, fun h1 h2 => ?_, fun h1 h2 => ?_, fun h1 h2 => ⟨?_, by omega, by omega, by omega⟩⟩
   · rw [h1, h2, Int.zero_mul, Int.zero_mul, cmpI_self] at h; omega
   · rw [h1, cmp_zero_l c (by omega) hd] at h; omega
   · rw [h2, cmp_zero_r d (by omega) hc] at h; omega
   · rw [← h, cmp_turn (n % d) c (m % c) d, Int.neg_mul, Int.mul_neg]
theorem cmpM_eq {h : Nat} {W : World} {n d : ByteArray} {t : TypeId} (hb : Blk W h #[.string n, .string d] t) : cmpM h W = (nS d).natAbs := by
 unfold cmpM
 rw [hb.cell (i := 1) rfl]
 rfl
set_option maxRecDepth 100000 in
set_option maxHeartbeats 2000000 in
theorem ratCompare_yes (a b : RS) (hra : rV a = true) (hrb : rV b = true) (w : World) (hg : Glob w) (ha : Sz a) (hb : Sz b) : Calls Tryz.prog 67 #[vR a, vR b] w fun e w' => e = .returned (.int .i64 (rCmp a b)) ∧ Below w.heap.size w w' := by
 obtain ⟨a1, a2⟩ := a
 obtain ⟨b1, b2⟩ := b
 have Va := Lib.hid (fun w hg => ratValid_is hra w hg ha)
 have Vb := Lib.hid (fun w hg => ratValid_is hrb w hg hb)
 obtain ⟨p1, p2, p3, _⟩ := rV_parts hra
 obtain ⟨p4, p5, p6, _⟩ := rV_parts hrb
 have hr : rCmp (a1, a2) (b1, b2) = cmpI (nS a1 * nS b2) (nS b1 * nS a2) := by
  rw [rCmp_val hra hrb]; exact cmpQ_divInt p3 p6
 rw [hr]
 show Calls _ _ #[.agg #[.string a1, .string a2], .agg #[.string b1, .string b2]] _ _
 have Hg := Lib.hid hg
 have HL0' : Hid (vS a1 = true ∧ vS a2 = true ∧ vS b1 = true ∧ vS b2 = true) := Lib.hid ⟨p1, p2, p4, p5⟩
 simp only at p3 p6 Va Vb
 generalize hres : cmpI (nS a1 * nS b2) (nS b1 * nS a2) = res at *
 have Hres := Lib.hid hres
 clear hg ha hb hra hrb hr p1 p2 p4 p5 hres
 go_enter Tryz.func67, Tryz.ntmps67
 go_wp2
 refine wp_scope_jumps 0 (CmpJ a1 a2 b1 b2 w res) (fun _ W => cmpM w.heap.size W) rfl ?_ ?_
 · go_wp2_with fail
   refine (Va.out _ (Hg.out.below (((Below.refl _ w).alloc (Nat.le_refl _) _).alloc (by simp) _))).mono ?_
   rintro e x1 ⟨rfl, hb1⟩
   have N0 := Lib.hid (Blk.below (Blk.alloc (Blk.new w #[.string a1, .string a2] 26) (.cells #[.string b1, .string b2] 26)) hb1 (by simp <;> omega))
   have N3 := Lib.hid (Blk.below (Blk.newAt (w.alloc (.cells #[.string a1, .string a2] 26)) #[.string b1, .string b2] 26 (b := w.heap.size + 1) (by simp)) hb1 (by simp))
   have HL0 := Lib.hid ((((Below.refl _ w).alloc (Nat.le_refl _) _).alloc (by simp) _).trans (hb1.mono (by simp; omega)))
   clear hb1
   obtain ⟨g1, g2, _, _, _⟩ := blk2 N0.out
   obtain ⟨g3, g4, _, _, _⟩ := blk2 N3.out
   go_wp2_with fail
   refine (Vb.out _ (Hg.out.below HL0.out)).mono ?_
   rintro e x2 ⟨rfl, hb2⟩
   have N1 := Lib.hid (N0.out.below hb2 N0.out.lt)
   have N2 := Lib.hid (N3.out.below hb2 N3.out.lt)
   have HL := Lib.hid (HL0.out.trans (hb2.mono HL0.out.size))
   clear hb2 N0 N3
   obtain ⟨g5, g6, _, _, _⟩ := blk2 N1.out
   obtain ⟨g7, g8, _, _, _⟩ := blk2 N2.out
   go_wp2
   go_step3
   have HRES : Hid (1 * cmpI (nS a1 * nS b2) (nS b1 * nS a2) = res) := Lib.hid (by rw [Int.one_mul]; exact Hres.out)
   have HV := HL0'
   have hq1 := vS_quo HV.out.1 HV.out.2.1 p3
   have hq2 := vS_quo HV.out.2.2.1 HV.out.2.2.2 p6
   have C1 : Hid (∀ W, Glob W → Calls Tryz.prog 107 #[.string a1, .string a2] W fun e w' => e = .returned (.tuple #[.string (ofI (nS a1 / nS a2)), .string (ofI (nS a1 % nS a2)), .int .i64 0]) ∧ Below W.heap.size W w') := Lib.hid fun W hg => by
    have := intDiv_any a1 a2 W hg (size_vS HV.out.1) (size_vS HV.out.2.1)
    rwa [iDivYes HV.out.1 HV.out.2.1 (by omega)] at this
   have C2 : Hid (∀ W, Glob W → Calls Tryz.prog 107 #[.string b1, .string b2] W fun e w' => e = .returned (.tuple #[.string (ofI (nS b1 / nS b2)), .string (ofI (nS b1 % nS b2)), .int .i64 0]) ∧ Below W.heap.size W w') := Lib.hid fun W hg => by
    have := intDiv_any b1 b2 W hg (size_vS HV.out.2.2.1) (size_vS HV.out.2.2.2)
    rwa [iDivYes HV.out.2.2.1 HV.out.2.2.2 (by omega)] at this
   have C3 : Hid (∀ W, Calls Tryz.prog 105 #[.string (ofI (nS a1 / nS a2)), .string (ofI (nS b1 / nS b2))] W fun e w' => e = .returned (.int .i64 (cmpI (nS a1 / nS a2) (nS b1 / nS b2))) ∧ Below W.heap.size W w') := Lib.hid fun W => by
    have := intCompare_any _ _ W (size_vS hq1.1) (size_vS hq2.1)
    unfold iCmp at this
    rwa [if_pos (by simp [hq1.1, hq2.1]), nS_ofI, nS_ofI] at this
   have E1 := eq48 hq1.2
   have E2 := eq48 hq2.2
   rw [nS_ofI] at E1 E2
   have VR := Lib.hid hq1.2
   have VS := Lib.hid hq2.2
   have HN := nS_ofI (nS a1 % nS a2)
   have HM := nS_ofI (nS b1 % nS b2)
   have HRd := cmp_round p3 p6 HRES.out
   generalize ofI (nS a1 / nS a2) = tq at *
   generalize ofI (nS a1 % nS a2) = tr at *
   generalize ofI (nS b1 / nS b2) = tp at *
   generalize ofI (nS b1 % nS b2) = ts at *
   have hcv := cmpI_range (nS a1 / nS a2) (nS b1 / nS b2)
   generalize cmpI (nS a1 / nS a2) (nS b1 / nS b2) = cv at *
   have Hcv := Lib.hid hcv
   have E1' := Lib.hid E1
   have E2' := Lib.hid E2
   have HN' := Lib.hid HN
   have HM' := Lib.hid HM
   have HRd' := Lib.hid HRd
   have P3 := Lib.hid p3
   have P6 := Lib.hid p6
   clear hq1 hq2 E1 E2 HN HM HRd hcv p3 p6
   obtain ⟨d1, d2, _, _, _⟩ := blk2 N1.out
   obtain ⟨f1, f2, _, _, _⟩ := blk2 N2.out
   go_wp2_with fail
   refine (C1.out _ (Hg.out.below HL.out)).mono ?_
   rintro e w1 ⟨rfl, hb1⟩
   have M1 := Lib.hid (N1.out.below hb1 N1.out.lt)
   have M2 := Lib.hid (N2.out.below hb1 N2.out.lt)
   have HL1 := Lib.hid (HL.out.trans (hb1.mono HL.out.size))
   clear hb1 N1 N2
   obtain ⟨d3, d4, _, _, _⟩ := blk2 M1.out
   obtain ⟨f3, f4, _, _, _⟩ := blk2 M2.out
   go_wp2_with fail
   refine (C2.out _ (Hg.out.below HL1.out)).mono ?_
   rintro e w2 ⟨rfl, hb2⟩
   have N1 := Lib.hid (M1.out.below hb2 M1.out.lt)
   have N2 := Lib.hid (M2.out.below hb2 M2.out.lt)
   have HL2 := Lib.hid (HL1.out.trans (hb2.mono HL1.out.size))
   clear hb2 M1 M2
   go_wp2_with fail
   refine (C3.out _).mono ?_
   rintro e w3 ⟨rfl, hb3⟩
   have M1 := Lib.hid (N1.out.below hb3 N1.out.lt)
   have M2 := Lib.hid (N2.out.below hb3 N2.out.lt)
   have HL3 := Lib.hid (HL2.out.trans (hb3.mono HL2.out.size))
   clear hb3 N1 N2
   obtain ⟨d5, d6, d7, d8, _⟩ := blk2 M1.out
   obtain ⟨f5, f6, f7, f8, _⟩ := blk2 M2.out
   rcases Hcv.out with rfl | rfl | rfl
   · skip
     have hres := HRd'.out.1 (by decide)
     have Hq := Lib.hid hres
     clear hres
     go_wp2
     simp only [Exit.jump]
     go_ret
     exact ⟨ret_i64 Hq.out, HL3.out⟩
   · have HR0 := Lib.hid (HRd'.out.2 rfl)
     by_cases h1 : nS a1 % nS a2 = 0
     · have t1 : (tr.toList == [48]) = true := by rw [E1'.out]; simp [h1]
       by_cases h2 : nS b1 % nS b2 = 0
       · have t2 : (ts.toList == [48]) = true := by rw [E2'.out]; simp [h2]
         have Hq := Lib.hid (HR0.out.1 h1 h2)
         clear h1 h2
         go_wp2
         simp only [Exit.jump]
         go_ret
         exact ⟨ret_i64 Hq.out.symm, HL3.out⟩
       · have t2 : (ts.toList == [48]) = false := by rw [E2'.out]; simp [h2]
         have Hq := Lib.hid (HR0.out.2.1 h1 h2)
         clear h1 h2
         go_wp2
         simp only [Exit.jump]
         go_ret
         exact ⟨ret_i64 Hq.out.symm, HL3.out⟩
     · have t1 : (tr.toList == [48]) = false := by rw [E1'.out]; simp [h1]
       by_cases h2 : nS b1 % nS b2 = 0
       · have t2 : (ts.toList == [48]) = true := by rw [E2'.out]; simp [h2]
         have Hq := Lib.hid (HR0.out.2.2.1 h1 h2)
         clear h1 h2
         go_wp2
         simp only [Exit.jump]
         go_ret
         exact ⟨ret_i64 Hq.out.symm, HL3.out⟩
       · have t2 : (ts.toList == [48]) = false := by rw [E2'.out]; simp [h2]
         have Hq := Lib.hid (HR0.out.2.2.2 h1 h2)
         clear h1 h2
         have hmx : Tryz.prog.follows .mixedOrders = true := by kernel_rfl
         all_goals go_wp2
         all_goals go_region
         all_goals go_wp2
         all_goals go_step3
         all_goals
          have hA := Blk.drewN ((((Blk.set M1.out 0 (.string a2)).set 1 (.string tr)).setOther (a := ⟨w.heap.size + 1, 0, none⟩) (by simp) (.string b2)).setOther (a := ⟨w.heap.size + 1, 1, none⟩) (by simp) (.string ts)) 1
          have hC := Blk.drewN (((Blk.setOther M2.out (a := ⟨w.heap.size, 0, none⟩) (by simp) (.string a2)).setOther (a := ⟨w.heap.size, 1, none⟩) (by simp) (.string tr)).set 0 (.string b2) |>.set 1 (.string ts)) 1
          have hBl := ((((HL3.out.setCell (p := ⟨w.heap.size, 0, none⟩) (Nat.le_refl _) (.string a2)).setCell (p := ⟨w.heap.size, 1, none⟩) (Nat.le_refl _) (.string tr)).setCell (p := ⟨w.heap.size + 1, 0, none⟩) (Nat.le_succ _) (.string b2)).setCell (p := ⟨w.heap.size + 1, 1, none⟩) (Nat.le_succ _) (.string ts)).drew
          have hq := Hq.out
          have hJ := And.intro (And.intro VR.out (And.intro VS.out (And.intro HV.out.2.1 HV.out.2.2.2))) hq
          rw [← HN'.out, ← HM'.out] at hq
          exact ⟨rfl, ⟨_, _, _, _, _, _, _, _, _, _, _, _, _, _, _, _, _, _, _, _, _, _, _, _, _, _, _, _, _, _, _, _, _, _, _, _, _, _, _, _, _, _, _, _, _, _, _, _, _, _, _, _, _, _, _, _, _, _, _, _, _, _, _, _, _, _, _, _, _, _, _, _, _, rfl, ⟨.inr rfl, ⟨HV.out.2.1, VR.out, HV.out.2.2.2, VS.out⟩, hq.2.1, hq.2.2.1, hq.1⟩, ⟨hA, hC⟩, hBl⟩⟩
   · skip
     have hres := HRd'.out.1 (by decide)
     have Hq := Lib.hid hres
     clear hres
     go_wp2
     simp only [Exit.jump]
     go_ret
     exact ⟨ret_i64 Hq.out, HL3.out⟩
 · rintro a' w' ⟨s, n, d, m, c, u6, u7, u8, u9, u10, u11, u12, u13, u14, u15, u16, u17, u18, u19, u20, u21, u22, u23, u24, u25, u26, u27, u28, u29, u30, u31, u32, u33, u34, u35, u36, u37, u38, u39, u40, u41, u42, u43, u44, u45, u46, u47, u48, u49, u50, u51, u52, u53, u54, u55, u56, u57, u58, u59, u60, u61, u62, u63, u64, u65, u66, u67, u68, u69, u70, u71, u72, u73, rfl, ⟨hS, hV, p3', p6', hR⟩, ⟨hB1, hB2⟩, hL⟩
   have HS := Lib.hid hS
   have HV := Lib.hid hV
   have HRES := Lib.hid hR
   have CM := Lib.hid (cmpM_eq hB1)
   have N1 := Lib.hid hB1
   have N2 := Lib.hid hB2
   have HL := Lib.hid hL
   have p3 := p3'
   have p6 := p6'
   clear hS hV hR hB1 hB2 hL p3' p6'
   have hq1 := vS_quo HV.out.1 HV.out.2.1 p3
   have hq2 := vS_quo HV.out.2.2.1 HV.out.2.2.2 p6
   have C1 : Hid (∀ W, Glob W → Calls Tryz.prog 107 #[.string n, .string d] W fun e w' => e = .returned (.tuple #[.string (ofI (nS n / nS d)), .string (ofI (nS n % nS d)), .int .i64 0]) ∧ Below W.heap.size W w') := Lib.hid fun W hg => by
    have := intDiv_any n d W hg (size_vS HV.out.1) (size_vS HV.out.2.1)
    rwa [iDivYes HV.out.1 HV.out.2.1 (by omega)] at this
   have C2 : Hid (∀ W, Glob W → Calls Tryz.prog 107 #[.string m, .string c] W fun e w' => e = .returned (.tuple #[.string (ofI (nS m / nS c)), .string (ofI (nS m % nS c)), .int .i64 0]) ∧ Below W.heap.size W w') := Lib.hid fun W hg => by
    have := intDiv_any m c W hg (size_vS HV.out.2.2.1) (size_vS HV.out.2.2.2)
    rwa [iDivYes HV.out.2.2.1 HV.out.2.2.2 (by omega)] at this
   have C3 : Hid (∀ W, Calls Tryz.prog 105 #[.string (ofI (nS n / nS d)), .string (ofI (nS m / nS c))] W fun e w' => e = .returned (.int .i64 (cmpI (nS n / nS d) (nS m / nS c))) ∧ Below W.heap.size W w') := Lib.hid fun W => by
    have := intCompare_any _ _ W (size_vS hq1.1) (size_vS hq2.1)
    unfold iCmp at this
    rwa [if_pos (by simp [hq1.1, hq2.1]), nS_ofI, nS_ofI] at this
   have E1 := eq48 hq1.2
   have E2 := eq48 hq2.2
   rw [nS_ofI] at E1 E2
   have VR := Lib.hid hq1.2
   have VS := Lib.hid hq2.2
   have HN := nS_ofI (nS n % nS d)
   have HM := nS_ofI (nS m % nS c)
   have HRd := cmp_round p3 p6 HRES.out
   generalize ofI (nS n / nS d) = tq at *
   generalize ofI (nS n % nS d) = tr at *
   generalize ofI (nS m / nS c) = tp at *
   generalize ofI (nS m % nS c) = ts at *
   have hcv := cmpI_range (nS n / nS d) (nS m / nS c)
   generalize cmpI (nS n / nS d) (nS m / nS c) = cv at *
   have Hcv := Lib.hid hcv
   have E1' := Lib.hid E1
   have E2' := Lib.hid E2
   have HN' := Lib.hid HN
   have HM' := Lib.hid HM
   have HRd' := Lib.hid HRd
   have P3 := Lib.hid p3
   have P6 := Lib.hid p6
   clear hq1 hq2 E1 E2 HN HM HRd hcv p3 p6
   obtain ⟨d1, d2, _, _, _⟩ := blk2 N1.out
   obtain ⟨f1, f2, _, _, _⟩ := blk2 N2.out
   go_wp2_with fail
   refine (C1.out _ (Hg.out.below HL.out)).mono ?_
   rintro e w1 ⟨rfl, hb1⟩
   have M1 := Lib.hid (N1.out.below hb1 N1.out.lt)
   have M2 := Lib.hid (N2.out.below hb1 N2.out.lt)
   have HL1 := Lib.hid (HL.out.trans (hb1.mono HL.out.size))
   clear hb1 N1 N2
   obtain ⟨d3, d4, _, _, _⟩ := blk2 M1.out
   obtain ⟨f3, f4, _, _, _⟩ := blk2 M2.out
   go_wp2_with fail
   refine (C2.out _ (Hg.out.below HL1.out)).mono ?_
   rintro e w2 ⟨rfl, hb2⟩
   have N1 := Lib.hid (M1.out.below hb2 M1.out.lt)
   have N2 := Lib.hid (M2.out.below hb2 M2.out.lt)
   have HL2 := Lib.hid (HL1.out.trans (hb2.mono HL1.out.size))
   clear hb2 M1 M2
   go_wp2_with fail
   refine (C3.out _).mono ?_
   rintro e w3 ⟨rfl, hb3⟩
   have M1 := Lib.hid (N1.out.below hb3 N1.out.lt)
   have M2 := Lib.hid (N2.out.below hb3 N2.out.lt)
   have HL3 := Lib.hid (HL2.out.trans (hb3.mono HL2.out.size))
   clear hb3 N1 N2
   obtain ⟨d5, d6, d7, d8, _⟩ := blk2 M1.out
   obtain ⟨f5, f6, f7, f8, _⟩ := blk2 M2.out
   rcases Hcv.out with rfl | rfl | rfl
   · skip
     rcases HS.out with rfl | rfl
     · have hres := HRd'.out.1 (by decide)
       have Hq := Lib.hid hres
       clear hres
       go_wp2
       simp only [Exit.jump]
       go_ret
       exact ⟨ret_i64 Hq.out, HL3.out⟩
     · have hres := HRd'.out.1 (by decide)
       have Hq := Lib.hid hres
       clear hres
       go_wp2
       simp only [Exit.jump]
       go_ret
       exact ⟨ret_i64 Hq.out, HL3.out⟩
   · have HR0 := Lib.hid (HRd'.out.2 rfl)
     by_cases h1 : nS n % nS d = 0
     · have t1 : (tr.toList == [48]) = true := by rw [E1'.out]; simp [h1]
       by_cases h2 : nS m % nS c = 0
       · have t2 : (ts.toList == [48]) = true := by rw [E2'.out]; simp [h2]
         have Hq := Lib.hid (HR0.out.1 h1 h2)
         clear h1 h2
         go_wp2
         simp only [Exit.jump]
         go_ret
         exact ⟨ret_i64 Hq.out.symm, HL3.out⟩
       · have t2 : (ts.toList == [48]) = false := by rw [E2'.out]; simp [h2]
         have Hq := Lib.hid (HR0.out.2.1 h1 h2)
         clear h1 h2
         rcases HS.out with rfl | rfl
         · go_wp2
           simp only [Exit.jump]
           go_ret
           exact ⟨ret_i64 Hq.out.symm, HL3.out⟩
         · go_wp2
           simp only [Exit.jump]
           go_ret
           exact ⟨ret_i64 Hq.out.symm, HL3.out⟩
     · have t1 : (tr.toList == [48]) = false := by rw [E1'.out]; simp [h1]
       by_cases h2 : nS m % nS c = 0
       · have t2 : (ts.toList == [48]) = true := by rw [E2'.out]; simp [h2]
         have Hq := Lib.hid (HR0.out.2.2.1 h1 h2)
         clear h1 h2
         go_wp2
         simp only [Exit.jump]
         go_ret
         exact ⟨ret_i64 Hq.out.symm, HL3.out⟩
       · have t2 : (ts.toList == [48]) = false := by rw [E2'.out]; simp [h2]
         have Hq := Lib.hid (HR0.out.2.2.2 h1 h2)
         clear h1 h2
         have hmx : Tryz.prog.follows .mixedOrders = true := by kernel_rfl
         rcases HS.out with rfl | rfl
         all_goals go_wp2
         all_goals go_region
         all_goals go_wp2
         all_goals go_step3
         all_goals
          have hA := Blk.drewN ((((Blk.set M1.out 0 (.string d)).set 1 (.string tr)).setOther (a := ⟨w.heap.size + 1, 0, none⟩) (by simp) (.string c)).setOther (a := ⟨w.heap.size + 1, 1, none⟩) (by simp) (.string ts)) 1
          have hC := Blk.drewN (((Blk.setOther M2.out (a := ⟨w.heap.size, 0, none⟩) (by simp) (.string d)).setOther (a := ⟨w.heap.size, 1, none⟩) (by simp) (.string tr)).set 0 (.string c) |>.set 1 (.string ts)) 1
          have hBl := ((((HL3.out.setCell (p := ⟨w.heap.size, 0, none⟩) (Nat.le_refl _) (.string d)).setCell (p := ⟨w.heap.size, 1, none⟩) (Nat.le_refl _) (.string tr)).setCell (p := ⟨w.heap.size + 1, 0, none⟩) (Nat.le_succ _) (.string c)).setCell (p := ⟨w.heap.size + 1, 1, none⟩) (Nat.le_succ _) (.string ts)).drew
          have hq := Hq.out
          have hJ := And.intro (And.intro VR.out (And.intro VS.out (And.intro HV.out.2.1 HV.out.2.2.2))) hq
          rw [← HN'.out, ← HM'.out] at hq
          refine ⟨rfl, ⟨_, _, _, _, _, _, _, _, _, _, _, _, _, _, _, _, _, _, _, _, _, _, _, _, _, _, _, _, _, _, _, _, _, _, _, _, _, _, _, _, _, _, _, _, _, _, _, _, _, _, _, _, _, _, _, _, _, _, _, _, _, _, _, _, _, _, _, _, _, _, _, _, _, rfl, ⟨by first | exact .inl rfl | exact .inr rfl, ⟨HV.out.2.1, VR.out, HV.out.2.2.2, VS.out⟩, hq.2.1, hq.2.2.1, hq.1⟩, ⟨hA, hC⟩, hBl⟩, ?_⟩
          refine Nat.lt_of_le_of_lt (Nat.le_of_eq (cmpM_eq hA)) ?_
          rw [CM.out]
          exact hq.2.2.2
   · skip
     rcases HS.out with rfl | rfl
     · have hres := HRd'.out.1 (by decide)
       have Hq := Lib.hid hres
       clear hres
       go_wp2
       simp only [Exit.jump]
       go_ret
       exact ⟨ret_i64 Hq.out, HL3.out⟩
     · have hres := HRd'.out.1 (by decide)
       have Hq := Lib.hid hres
       clear hres
       go_wp2
       simp only [Exit.jump]
       go_ret
       exact ⟨ret_i64 Hq.out, HL3.out⟩
set_option maxRecDepth 100000 in
theorem ratCompare_any (a b : RS) (w : World) (hg : Glob w) (ha : Sz a) (hb : Sz b) : Calls Tryz.prog 67 #[vR a, vR b] w fun e w' => e = .returned (.int .i64 (rCmp a b)) ∧ Below w.heap.size w w' := by
 cases hra : rV a with
 | true =>
   cases hrb : rV b with
   | true => exact ratCompare_yes a b hra hrb w hg ha hb
   | false =>
     have hr : rCmp a b = 0 := by unfold rCmp; simp [hrb]
     rw [hr]
     obtain ⟨a1, a2⟩ := a
     obtain ⟨b1, b2⟩ := b
     show Calls _ _ #[.agg #[.string a1, .string a2], .agg #[.string b1, .string b2]] _ _
     have Va := Lib.hid (fun w hg => ratValid_is hra w hg ha)
     have Vb := Lib.hid (fun w hg => ratValid_is hrb w hg hb)
     simp only at Va Vb
     have Hg := Lib.hid hg
     clear hg ha hb hra hrb hr
     go_enter Tryz.func67, Tryz.ntmps67
     go_wp2
     refine wp_scope_jumps 0 (fun _ _ => False) (fun _ _ => 0) rfl ?_ (fun _ _ h => h.elim)
     go_wp2_with fail
     refine (Va.out _ (Hg.out.below (((Below.refl _ w).alloc (Nat.le_refl _) _).alloc (by simp) _))).mono ?_
     rintro e x1 ⟨rfl, hb1⟩
     have N3 := Lib.hid (Blk.below (Blk.newAt (w.alloc (.cells #[.string a1, .string a2] 26)) #[.string b1, .string b2] 26 (b := w.heap.size + 1) (by simp)) hb1 (by simp))
     have HL0 := Lib.hid ((((Below.refl _ w).alloc (Nat.le_refl _) _).alloc (by simp) _).trans (hb1.mono (by simp; omega)))
     clear hb1
     obtain ⟨g3, g4, _, _, _⟩ := blk2 N3.out
     go_wp2_with fail
     refine (Vb.out _ (Hg.out.below HL0.out)).mono ?_
     rintro e x2 ⟨rfl, hb2⟩
     have HL := Lib.hid (HL0.out.trans (hb2.mono HL0.out.size))
     clear hb2
     go_wp2
     simp only [Exit.jump]
     go_ret
     exact ⟨rfl, HL.out⟩
 | false =>
   have hr : rCmp a b = 0 := by unfold rCmp; simp [hra]
   rw [hr]
   obtain ⟨a1, a2⟩ := a
   obtain ⟨b1, b2⟩ := b
   show Calls _ _ #[.agg #[.string a1, .string a2], .agg #[.string b1, .string b2]] _ _
   have Va := Lib.hid (fun w hg => ratValid_is hra w hg ha)
   simp only at Va
   have Hg := Lib.hid hg
   clear hg ha hb hra hr
   go_enter Tryz.func67, Tryz.ntmps67
   go_wp2
   refine wp_scope_jumps 0 (fun _ _ => False) (fun _ _ => 0) rfl ?_ (fun _ _ h => h.elim)
   go_wp2_with fail
   refine (Va.out _ (Hg.out.below (((Below.refl _ w).alloc (Nat.le_refl _) _).alloc (by simp) _))).mono ?_
   rintro e x1 ⟨rfl, hb1⟩
   have HL0 := Lib.hid ((((Below.refl _ w).alloc (Nat.le_refl _) _).alloc (by simp) _).trans (hb1.mono (by simp; omega)))
   clear hb1
   go_wp2
   simp only [Exit.jump]
   go_ret
   exact ⟨rfl, HL0.out⟩
set_option maxRecDepth 100000 in
theorem refOrder_any (x y : Nat) (va vb : Value) (w : World) (ha : Rd encN w va (digs 10 x)) (hb : Rd encN w vb (digs 10 y)) :
 Calls Tryz.prog 137 #[va, vb] w fun e w' => e = .returned (.int .i64 (cmpN x y)) ∧ Below w.heap.size w w' := by
 obtain ⟨aa, ca, rfl, hca, hca2, hcella⟩ := ha.open'
 obtain ⟨ab, cb, rfl, hcb, hcb2, hcellb⟩ := hb.open'
 have Hca := Lib.hid hcella; clear hcella
 have Hcb := Lib.hid hcellb; clear hcellb
 clear ha hb
 by_cases hlen : (digs 10 x).length = (digs 10 y).length
 · obtain ⟨n, hn⟩ : ∃ n, (digs 10 x).length = n := ⟨_, rfl⟩
   have Hx := Lib.hid hn
   have Hy := Lib.hid (hlen.symm.trans hn)
   rw [← hlen, hn] at hcb ⊢
   rw [hn] at hca
   clear hlen hn
   have hc : ((n : Int) != n) = false := by simp
   go_enter Tryz.func137, Tryz.ntmps137
   go_wp2
   go_loopw [5] (fun i wr => ∃ j : Nat, j ≤ n ∧ i = .int .i64 ((j : Int) - 1) ∧ (digs 10 x).drop j = (digs 10 y).drop j ∧ Below w.heap.size w wr) (fun i _ => (intOf i + 1).toNat)
   case atStart => exact ⟨n, Nat.le_refl _, rfl, by rw [List.drop_of_length_le (by rw [Hx.out]; exact Nat.le_refl _), List.drop_of_length_le (by rw [Hy.out]; exact Nat.le_refl _)], Below.refl _ _⟩
   case round =>
    obtain ⟨j, hj, rfl, hd, hB⟩ := hrel
    have Hd := Lib.hid hd; clear hd
    cases j with
    | zero =>
      go_wp2
      go_ret
      exact ⟨ret_i64 (cmpN_eq (digs_inj (B := 10) (by decide) (by simpa using Hd.out))).symm, hB⟩
    | succ m =>
      obtain ⟨ba, oa, rfl, hba, hc1⟩ := Hca.out m (by rw [Hx.out]; omega)
      obtain ⟨bb, ob, rfl, hbb, hc2⟩ := Hcb.out m (by rw [Hy.out]; omega)
      have k1 := (hB.cell (p := ⟨ba, oa + m, none⟩) hba).trans hc1
      have k2 := (hB.cell (p := ⟨bb, ob + m, none⟩) hbb).trans hc2
      clear hc1 hc2
      obtain ⟨dx, ex⟩ : ∃ d, (digs 10 x)[m]'(by rw [Hx.out]; omega) = d := ⟨_, rfl⟩
      obtain ⟨dy, ey⟩ : ∃ d, (digs 10 y)[m]'(by rw [Hy.out]; omega) = d := ⟨_, rfl⟩
      rw [ex] at k1
      rw [ey] at k2
      have Ex := Lib.hid ex; clear ex
      have Ey := Lib.hid ey; clear ey
      by_cases h : dx = dy
      · have c1 : ((dx : Int) != dy) = false := by simp [h]
        have Hn := Lib.hid (drop_step (by rw [Hx.out]; omega) (by rw [Hy.out]; omega) Hd.out (Ex.out.trans (h.trans Ey.out.symm))); clear h
        go_wp2
        go_quiet (fail)
        go_wp2
        go_roundw
        case rel => exact ⟨m, by omega, by go_num, Hn.out, hB.drewN _⟩
        case measure => simp [intOf]
      · have c1 : ((dx : Int) != dy) = true := by rw [bne_iff_ne]; omega
        by_cases hlt : dx < dy
        · have c2 : decide (dx < dy) = true := by simp [hlt]
          have Hn := Lib.hid (digs_less (by decide) (by rw [Hx.out]; omega) (by rw [Hy.out]; omega) Hd.out (by rw [Ex.out, Ey.out]; exact hlt) : x < y); clear h
          go_wp2
          go_quiet (fail)
          go_wp2
          go_quiet (fail)
          go_wp2
          go_ret
          exact ⟨ret_i64 (cmpN_lt Hn.out).symm, (hB.drewN _).drewN _⟩
        · have c2 : decide (dx < dy) = false := by simp [hlt]
          have Hn := Lib.hid (digs_less (B := 10) (by decide) (by rw [Hy.out]; omega) (by rw [Hx.out]; omega) Hd.out.symm (by rw [Ex.out, Ey.out]; omega) : y < x); clear h
          go_wp2
          go_quiet (fail)
          go_wp2
          go_quiet (fail)
          go_wp2
          go_ret
          exact ⟨ret_i64 (cmpN_gt Hn.out).symm, (hB.drewN _).drewN _⟩
 · obtain ⟨n, hn⟩ : ∃ n, (digs 10 x).length = n := ⟨_, rfl⟩
   obtain ⟨m, hm⟩ : ∃ m, (digs 10 y).length = m := ⟨_, rfl⟩
   have h1 : n < m → x < y := fun h => digs_len_lt (B := 10) (by decide) (by omega)
   have h2 : m < n → y < x := fun h => digs_len_lt (B := 10) (by decide) (by omega)
   rw [hn, hm] at hlen
   rw [hn] at hca ⊢
   rw [hm] at hcb ⊢
   clear hn hm Hca Hcb
   have c1 : ((n : Int) != m) = true := by rw [bne_iff_ne]; omega
   by_cases hlt : n < m
   · have Hn := Lib.hid (h1 hlt); clear h1 h2
     go_enter Tryz.func137, Tryz.ntmps137
     go_wp2
     go_ret
     exact ⟨ret_i64 (cmpN_lt Hn.out).symm, Below.refl _ _⟩
   · have Hn := Lib.hid (h2 (by omega)); clear h1 h2
     go_enter Tryz.func137, Tryz.ntmps137
     go_wp2
     go_ret
     exact ⟨ret_i64 (cmpN_gt Hn.out).symm, Below.refl _ _⟩
set_option maxRecDepth 100000 in
theorem refTrim_any (l : List Nat) (hd : ∀ d ∈ l, d < 10) (v : Value) (w : World) (hv : Rd encN w v l) :
 Calls Tryz.prog 152 #[v] w fun e w' => ∃ v', e = .returned v' ∧ Rd encN w' v' (digs 10 (val 10 l)) ∧ (∀ B, From B v → From B v') ∧ Below w.heap.size w w' := by
 rw [← trimZ_eq (by decide) l hd]
 obtain ⟨a, cap, rfl, hca, hca2, hcell⟩ := hv.open'
 have Hadr := Lib.hid hv.addr
 have Hc := Lib.hid hcell; clear hcell hv hd
 obtain ⟨n, hn⟩ : ∃ n, l.length = n := ⟨_, rfl⟩
 have Hn := Lib.hid hn
 rw [hn] at hca ⊢
 clear hn
 go_enter Tryz.func152, Tryz.ntmps152
 go_wp2
 go_loopw [0] (fun s wr => ∃ k : Nat, k ≤ n ∧ s = .slice a k cap ∧ trimZ (l.take k) = trimZ l ∧ Below w.heap.size w wr) (fun s _ => match s with | .slice _ k _ => k | _ => 0)
 case atStart => exact ⟨n, Nat.le_refl _, rfl, by rw [List.take_of_length_le (by rw [Hn.out]; exact Nat.le_refl _)], Below.refl _ _⟩
 case round =>
  obtain ⟨k, hk, rfl, ht, hB⟩ := hrel
  have Ht := Lib.hid ht; clear ht
  cases k with
  | zero =>
    go_wp2
    go_ret
    refine ⟨_, rfl, ?_, fun B h => h.len, hB⟩
    rw [← Ht.out, List.take_zero, trimZ_nil]
    have := (Rd.take_of (k := 0) (Nat.zero_le _) (Nat.zero_le _) hca2 Hc.out Hadr.out.1 Hadr.out.2).below hB
    rwa [List.take_zero] at this
  | succ m =>
    have hm : m < l.length := by rw [Hn.out]; omega
    have Hr := Lib.hid (Rd.take_of (k := m + 1) (by omega) (by omega) hca2 Hc.out Hadr.out.1 Hadr.out.2)
    obtain ⟨b, off, rfl, hb, hc1⟩ := Hc.out m hm
    have k1 := (hB.cell (p := ⟨b, off + m, none⟩) hb).trans hc1
    clear hc1
    by_cases h0 : l[m] = 0
    · have c1 : ((l[m] : Int) == 0) = true := by rw [h0]; rfl
      have Ht2 := Lib.hid ((trimZ_zero hm h0).symm.trans Ht.out); clear h0
      go_wp2
      go_roundw
      case rel => exact ⟨m, by omega, rfl, Ht2.out, hB⟩
      case measure => simp
    · have c1 : ((l[m] : Int) == 0) = false := by rw [beq_eq_false_iff_ne]; omega
      have Ht2 := Lib.hid ((trimZ_stop hm h0).symm.trans Ht.out); clear h0
      go_wp2
      go_ret
      refine ⟨_, rfl, ?_, fun B h => h.len, hB⟩
      rw [← Ht2.out]
      exact Hr.out.below hB
def PlusRel (x y : Nat) (w : World) (out carry i : Value) (wr : World) : Prop :=
 ∃ (k c : Nat) (l : List Nat), i = .int .i64 k ∧ carry = .int .i64 c ∧ OwnL encN 3 wr w.heap.size out l ∧ Below w.heap.size w wr ∧ l.length = k ∧ c ≤ 1 ∧ (∀ d ∈ l, d < 10) ∧
  val 10 l + 10 ^ k * c = val 10 ((digs 10 x).take k) + val 10 ((digs 10 y).take k) ∧
  (k ≤ (digs 10 x).length ∨ k ≤ (digs 10 y).length ∨ (l.getLast? ≠ some 0 ∧ c = 0))
theorem plusRel_step {x y : Nat} {w : World} {k c da db : Nat} {l : List Nat} {w1 : World} {out i' c' : Value}
 (hl : l.length = k) (hd : ∀ d ∈ l, d < 10) (hv : val 10 l + 10 ^ k * c = val 10 ((digs 10 x).take k) + val 10 ((digs 10 y).take k))
 (hda : (digs 10 x).getD k 0 = da) (hdb : (digs 10 y).getD k 0 = db) (hin : k < (digs 10 x).length ∨ k < (digs 10 y).length ∨ 0 < c) (hc : c ≤ 1)
 (hown : OwnL encN 3 w1 w.heap.size out (l ++ [(c + da + db) % 10])) (hB : Below w.heap.size w w1) (hi : i' = .int .i64 ((k + 1 : Nat) : Int)) (hc' : c' = .int .i64 (((c + da + db) / 10 : Nat) : Int)) :
 PlusRel x y w out c' i' w1 := by
 subst hda; subst hdb
 have h1 := digs_getD_lt (B := 10) (by decide) x k
 have h2 := digs_getD_lt (B := 10) (by decide) y k
 refine ⟨k + 1, _, _, hi, hc', hown, hB, by simp [hl], by omega, ?_, sum_step hv hl, ?_⟩
 · intro d hm
   rcases List.mem_append.1 hm with hm | hm
   · exact hd d hm
   · simp at hm; omega
 · by_cases e1 : k < (digs 10 x).length
   · exact .inl e1
   · by_cases e2 : k < (digs 10 y).length
     · exact .inr (.inl e2)
     · have e3 : (digs 10 x).getD k 0 = 0 := by rw [List.getD, List.getElem?_eq_none (by omega)]; rfl
       have e4 : (digs 10 y).getD k 0 = 0 := by rw [List.getD, List.getElem?_eq_none (by omega)]; rfl
       refine .inr (.inr ⟨?_, ?_⟩)
       · rw [List.getLast?_concat, e3, e4]; simp; omega
       · rw [e3, e4]; omega
set_option maxRecDepth 100000 in
theorem refPlus_any (x y : Nat) (va vb : Value) (w : World) (ha : Rd encN w va (digs 10 x)) (hb : Rd encN w vb (digs 10 y)) (hx : (digs 10 x).length ≤ 1000) (hy : (digs 10 y).length ≤ 1000) :
 Calls Tryz.prog 139 #[va, vb] w fun e w' => ∃ v, e = .returned v ∧ Rd encN w' v (digs 10 (x + y)) ∧ From w.heap.size v ∧ Below w.heap.size w w' := by
 obtain ⟨aa, ca, rfl, hca, hca2, hcella⟩ := ha.open'
 obtain ⟨ab, cb, rfl, hcb, hcb2, hcellb⟩ := hb.open'
 have Hca := Lib.hid hcella; clear hcella
 have Hcb := Lib.hid hcellb; clear hcellb
 clear ha hb
 obtain ⟨n, hn⟩ : ∃ n, (digs 10 x).length = n := ⟨_, rfl⟩
 obtain ⟨m, hm⟩ : ∃ n, (digs 10 y).length = n := ⟨_, rfl⟩
 have Hn := Lib.hid hn
 have Hm := Lib.hid hm
 rw [hn] at hca hx ⊢
 rw [hm] at hcb hy ⊢
 clear hn hm
 go_enter Tryz.func139, Tryz.ntmps139
 go_wp2
 go_loopw [5, 6, 7] (fun out carry i wr => PlusRel x y w out carry i wr) (fun _ c i _ => (2 * (n + m + 2 - intOf i) + intOf c).toNat)
 case atStart => exact ⟨0, 0, [], rfl, rfl, OwnL.nil _ _, Below.refl _ _, rfl, by omega, by simp, by simp [val], by omega⟩
 case round =>
  obtain ⟨k, c, l, rfl, rfl, hown, hB, hl, hc, hd, hv, hk⟩ := hrel
  have Hl := Lib.hid hl; clear hl
  have Hd := Lib.hid hd; clear hd
  have Hv := Lib.hid hv; clear hv
  have Hk := Lib.hid hk; clear hk
  by_cases hin : k < n ∨ k < m ∨ 0 < c
  · have hkb : k ≤ n + m := by
     have h5 := Hk.out
     rw [Hn.out, Hm.out] at h5
     omega
    by_cases hkn : k < n
    · obtain ⟨ba, oa, rfl, hba, hc1⟩ := Hca.out k (by rw [Hn.out]; omega)
      have k1 := (hB.cell (p := ⟨ba, oa + k, none⟩) hba).trans hc1
      obtain ⟨da, eda⟩ : ∃ d, (digs 10 x)[k]'(by rw [Hn.out]; omega) = d := ⟨_, rfl⟩
      have hda : da < 10 := by rw [← eda]; exact digs_lt (by decide) x _ (List.getElem_mem _)
      have Hda := Lib.hid (show (digs 10 x).getD k 0 = da by rw [List.getD, List.getElem?_eq_getElem (by rw [Hn.out]; omega), eda]; rfl)
      rw [eda] at k1
      clear hc1 eda
      by_cases hkm : k < m
      · obtain ⟨bb, ob, rfl, hbb, hc2⟩ := Hcb.out k (by rw [Hm.out]; omega)
        have k2 := (hB.cell (p := ⟨bb, ob + k, none⟩) hbb).trans hc2
        obtain ⟨db, edb⟩ : ∃ d, (digs 10 y)[k]'(by rw [Hm.out]; omega) = d := ⟨_, rfl⟩
        have hdb : db < 10 := by rw [← edb]; exact digs_lt (by decide) y _ (List.getElem_mem _)
        have Hdb := Lib.hid (show (digs 10 y).getD k 0 = db by rw [List.getD, List.getElem?_eq_getElem (by rw [Hm.out]; omega), edb]; rfl)
        rw [edb] at k2
        clear hc2 edb
        have Hin := Lib.hid hin; clear hin
        have hlb : l.length ≤ n + m + 2 := by rw [Hl.out]; omega
        have hbs := hB.size
        go_wp2_with (at_builtin; (refine appN rfl _ _ rfl rfl (hown.alloc _) wr.heap.size 1 _ rfl (cell_new1 _ _ _) ((c + da + db) % 10) (int_eq (by omega)) (by omega) (by simp; omega) ?_); intro v' w1 hown1 hB1)
        go_roundw
        case rel => exact plusRel_step Hl.out Hd.out Hv.out Hda.out Hdb.out (by rw [Hn.out, Hm.out]; exact Hin.out) hc hown1 ((hB.alloc hB.size _).trans hB1) (int_eq (by omega)) (int_eq (by omega))
        case measure => simp [intOf]; omega
      · have Hdb := Lib.hid (show (digs 10 y).getD k 0 = 0 by rw [List.getD, List.getElem?_eq_none (by rw [Hm.out]; omega)]; rfl)
        have Hin := Lib.hid hin; clear hin
        have hlb : l.length ≤ n + m + 2 := by rw [Hl.out]; omega
        have hbs := hB.size
        go_wp2_with (at_builtin; refine appN rfl _ _ rfl rfl (hown.alloc _) wr.heap.size 1 _ rfl (cell_new1 _ _ _) ((c + da + 0) % 10) (int_eq (by omega)) (by omega) (by simp; omega) ?_; intro v' w1 hown1 hB1)
        go_roundw
        case rel => exact plusRel_step Hl.out Hd.out Hv.out Hda.out Hdb.out (by rw [Hn.out, Hm.out]; exact Hin.out) hc hown1 ((hB.alloc hB.size _).trans hB1) (int_eq (by omega)) (int_eq (by omega))
        case measure => simp [intOf]; omega
    · have Hda := Lib.hid (show (digs 10 x).getD k 0 = 0 by rw [List.getD, List.getElem?_eq_none (by rw [Hn.out]; omega)]; rfl)
      by_cases hkm : k < m
      · obtain ⟨bb, ob, rfl, hbb, hc2⟩ := Hcb.out k (by rw [Hm.out]; omega)
        have k2 := (hB.cell (p := ⟨bb, ob + k, none⟩) hbb).trans hc2
        obtain ⟨db, edb⟩ : ∃ d, (digs 10 y)[k]'(by rw [Hm.out]; omega) = d := ⟨_, rfl⟩
        have hdb : db < 10 := by rw [← edb]; exact digs_lt (by decide) y _ (List.getElem_mem _)
        have Hdb := Lib.hid (show (digs 10 y).getD k 0 = db by rw [List.getD, List.getElem?_eq_getElem (by rw [Hm.out]; omega), edb]; rfl)
        rw [edb] at k2
        clear hc2 edb
        have Hin := Lib.hid hin; clear hin
        have hlb : l.length ≤ n + m + 2 := by rw [Hl.out]; omega
        have hbs := hB.size
        go_wp2_with (at_builtin; refine appN rfl _ _ rfl rfl (hown.alloc _) wr.heap.size 1 _ rfl (cell_new1 _ _ _) ((c + 0 + db) % 10) (int_eq (by omega)) (by omega) (by simp; omega) ?_; intro v' w1 hown1 hB1)
        go_roundw
        case rel => exact plusRel_step Hl.out Hd.out Hv.out Hda.out Hdb.out (by rw [Hn.out, Hm.out]; exact Hin.out) hc hown1 ((hB.alloc hB.size _).trans hB1) (int_eq (by omega)) (int_eq (by omega))
        case measure => simp [intOf]; omega
      · have Hdb := Lib.hid (show (digs 10 y).getD k 0 = 0 by rw [List.getD, List.getElem?_eq_none (by rw [Hm.out]; omega)]; rfl)
        have hc0 : 0 < c := by omega
        have Hin := Lib.hid hin; clear hin
        have hlb : l.length ≤ n + m + 2 := by rw [Hl.out]; omega
        have hbs := hB.size
        go_wp2_with (at_builtin; refine appN rfl _ _ rfl rfl (hown.alloc _) wr.heap.size 1 _ rfl (cell_new1 _ _ _) ((c + 0 + 0) % 10) (int_eq (by omega)) (by omega) (by simp; omega) ?_; intro v' w1 hown1 hB1)
        go_roundw
        case rel => exact plusRel_step Hl.out Hd.out Hv.out Hda.out Hdb.out (by rw [Hn.out, Hm.out]; exact Hin.out) hc hown1 ((hB.alloc hB.size _).trans hB1) (int_eq (by omega)) (int_eq (by omega))
        case measure => simp [intOf]; omega
  · have h1 : decide (k < n) = false := by simp; omega
    have h2 : decide (k < m) = false := by simp; omega
    obtain rfl : c = 0 := by omega
    go_wp2
    go_ret
    refine ⟨_, rfl, ?_, hown.from, hB⟩
    rw [← sum_end (B := 10) (by decide) Hv.out Hl.out Hd.out (by rw [Hn.out]; omega) (by rw [Hm.out]; omega) (by rcases Hk.out with h | h | h <;> simp_all)]
    exact hown.rd
def MinusRel (x y : Nat) (w : World) (out borrow i : Value) (wr : World) : Prop :=
 ∃ (k c : Nat) (l : List Nat), i = .int .i64 k ∧ borrow = .int .i64 c ∧ OwnL encN 3 wr w.heap.size out l ∧ Below w.heap.size w wr ∧ l.length = k ∧ c ≤ 1 ∧ (∀ d ∈ l, d < 10) ∧
  val 10 l + val 10 ((digs 10 y).take k) + 0 = val 10 ((digs 10 x).take k) + 10 ^ k * c ∧ k ≤ (digs 10 x).length
theorem minusRel_step {x y : Nat} {w : World} {k c c2 d da db : Nat} {l : List Nat} {w1 : World} {out i' c' : Value}
 (hl : l.length = k) (hd : ∀ d ∈ l, d < 10) (hv : val 10 l + val 10 ((digs 10 y).take k) + 0 = val 10 ((digs 10 x).take k) + 10 ^ k * c)
 (hda : (digs 10 x).getD k 0 = da) (hdb : (digs 10 y).getD k 0 = db) (hin : k < (digs 10 x).length) (hc : c ≤ 1) (h1 : da + 10 * c2 = d + c + db) (hc2 : c2 ≤ 1) (hd2 : d < 10)
 (hown : OwnL encN 3 w1 w.heap.size out (l ++ [d])) (hB : Below w.heap.size w w1) (hi : i' = .int .i64 ((k + 1 : Nat) : Int)) (hc' : c' = .int .i64 (c2 : Int)) :
 MinusRel x y w out c' i' w1 := by
 subst hda; subst hdb
 refine ⟨k + 1, c2, _, hi, hc', hown, hB, by simp [hl], hc2, ?_, diff_step (by decide) hv hl hc (digs_getD_lt (by decide) x k) (digs_getD_lt (by decide) y k) h1, hin⟩
 intro d hm
 rcases List.mem_append.1 hm with hm | hm
 · exact hd d hm
 · simp at hm; omega
theorem minus_end {x y k c : Nat} {l : List Nat} (hv : val 10 l + val 10 ((digs 10 y).take k) + 0 = val 10 ((digs 10 x).take k) + 10 ^ k * c) (hl : l.length = k) (hd : ∀ d ∈ l, d < 10) (hc : c ≤ 1)
 (hk : k = (digs 10 x).length) (hxy : y ≤ x) : val 10 l = x - y := by
 have h1 : (digs 10 y).length ≤ k := by
  rw [hk]
  apply Nat.le_of_not_lt
  intro h
  have := digs_len_lt (B := 10) (by decide) h
  omega
 rw [List.take_of_length_le h1, List.take_of_length_le (by omega : (digs 10 x).length ≤ k), val_digs (by decide), val_digs (by decide)] at hv
 have h2 := val_lt (B := 10) hd
 rw [hl] at h2
 rcases (show c = 0 ∨ c = 1 by omega) with rfl | rfl <;> omega
set_option maxRecDepth 100000 in
theorem refMinus_any (x y : Nat) (hxy : y ≤ x) (va vb : Value) (w : World) (ha : Rd encN w va (digs 10 x)) (hb : Rd encN w vb (digs 10 y)) (hx : (digs 10 x).length ≤ 1000) :
 Calls Tryz.prog 140 #[va, vb] w fun e w' => ∃ v, e = .returned v ∧ Rd encN w' v (digs 10 (x - y)) ∧ From w.heap.size v ∧ Below w.heap.size w w' := by
 obtain ⟨aa, ca, rfl, hca, hca2, hcella⟩ := ha.open'
 obtain ⟨ab, cb, rfl, hcb, hcb2, hcellb⟩ := hb.open'
 have Hca := Lib.hid hcella; clear hcella
 have Hcb := Lib.hid hcellb; clear hcellb
 clear ha hb
 obtain ⟨n, hn⟩ : ∃ n, (digs 10 x).length = n := ⟨_, rfl⟩
 obtain ⟨m, hm⟩ : ∃ n, (digs 10 y).length = n := ⟨_, rfl⟩
 have Hn := Lib.hid hn
 have Hm := Lib.hid hm
 rw [hn] at hca hx ⊢
 rw [hm] at hcb ⊢
 clear hn hm
 go_enter Tryz.func140, Tryz.ntmps140
 go_wp2
 go_loopw [5, 6, 7] (fun out borrow i wr => MinusRel x y w out borrow i wr) (fun _ c i _ => (n - intOf i).toNat)
 case atStart => exact ⟨0, 0, [], rfl, rfl, OwnL.nil _ _, Below.refl _ _, rfl, by omega, by simp, by simp [val], by omega⟩
 case round =>
  obtain ⟨k, c, l, rfl, rfl, hown, hB, hl, hc, hd, hv, hk⟩ := hrel
  have Hl := Lib.hid hl; clear hl
  have Hd := Lib.hid hd; clear hd
  have Hv := Lib.hid hv; clear hv
  rw [Hn.out] at hk
  by_cases hin : k < n
  · obtain ⟨ba, oa, rfl, hba, hc1⟩ := Hca.out k (by rw [Hn.out]; omega)
    have k1 := (hB.cell (p := ⟨ba, oa + k, none⟩) hba).trans hc1
    obtain ⟨da, eda⟩ : ∃ d, (digs 10 x)[k]'(by rw [Hn.out]; omega) = d := ⟨_, rfl⟩
    have hda : da < 10 := by rw [← eda]; exact digs_lt (by decide) x _ (List.getElem_mem _)
    have Hda := Lib.hid (show (digs 10 x).getD k 0 = da by rw [List.getD, List.getElem?_eq_getElem (by rw [Hn.out]; omega), eda]; rfl)
    rw [eda] at k1
    clear hc1 eda
    have hlb : l.length ≤ n + 2 := by rw [Hl.out]; omega
    have hbs := hB.size
    by_cases hkm : k < m
    · obtain ⟨bb, ob, rfl, hbb, hc2⟩ := Hcb.out k (by rw [Hm.out]; omega)
      have k2 := (hB.cell (p := ⟨bb, ob + k, none⟩) hbb).trans hc2
      obtain ⟨db, edb⟩ : ∃ d, (digs 10 y)[k]'(by rw [Hm.out]; omega) = d := ⟨_, rfl⟩
      have hdb : db < 10 := by rw [← edb]; exact digs_lt (by decide) y _ (List.getElem_mem _)
      have Hdb := Lib.hid (show (digs 10 y).getD k 0 = db by rw [List.getD, List.getElem?_eq_getElem (by rw [Hm.out]; omega), edb]; rfl)
      rw [edb] at k2
      clear hc2 edb
      by_cases hneg : da < c + db
      · go_wp2_with (at_builtin; refine appN rfl _ _ rfl rfl (hown.alloc _) wr.heap.size 1 _ rfl (cell_new1 _ _ _) (da + 10 - c - db) (int_eq (by omega)) (by omega) (by simp; omega) ?_; intro v' w1 hown1 hB1)
        go_roundw
        case rel => exact minusRel_step (c2 := 1) Hl.out Hd.out Hv.out Hda.out Hdb.out (by rw [Hn.out]; exact hin) hc (by omega) (by decide) (by omega) hown1 ((hB.alloc hB.size _).trans hB1) (int_eq (by omega)) (int_eq (by omega))
        case measure => simp [intOf]; omega
      · go_wp2_with (at_builtin; refine appN rfl _ _ rfl rfl (hown.alloc _) wr.heap.size 1 _ rfl (cell_new1 _ _ _) (da - c - db) (int_eq (by omega)) (by omega) (by simp; omega) ?_; intro v' w1 hown1 hB1)
        go_roundw
        case rel => exact minusRel_step (c2 := 0) Hl.out Hd.out Hv.out Hda.out Hdb.out (by rw [Hn.out]; exact hin) hc (by omega) (by decide) (by omega) hown1 ((hB.alloc hB.size _).trans hB1) (int_eq (by omega)) (int_eq (by omega))
        case measure => simp [intOf]; omega
    · have Hdb := Lib.hid (show (digs 10 y).getD k 0 = 0 by rw [List.getD, List.getElem?_eq_none (by rw [Hm.out]; omega)]; rfl)
      by_cases hneg : da < c
      · go_wp2_with (at_builtin; refine appN rfl _ _ rfl rfl (hown.alloc _) wr.heap.size 1 _ rfl (cell_new1 _ _ _) (da + 10 - c) (int_eq (by omega)) (by omega) (by simp; omega) ?_; intro v' w1 hown1 hB1)
        go_roundw
        case rel => exact minusRel_step (c2 := 1) Hl.out Hd.out Hv.out Hda.out Hdb.out (by rw [Hn.out]; exact hin) hc (by omega) (by decide) (by omega) hown1 ((hB.alloc hB.size _).trans hB1) (int_eq (by omega)) (int_eq (by omega))
        case measure => simp [intOf]; omega
      · go_wp2_with (at_builtin; refine appN rfl _ _ rfl rfl (hown.alloc _) wr.heap.size 1 _ rfl (cell_new1 _ _ _) (da - c) (int_eq (by omega)) (by omega) (by simp; omega) ?_; intro v' w1 hown1 hB1)
        go_roundw
        case rel => exact minusRel_step (c2 := 0) Hl.out Hd.out Hv.out Hda.out Hdb.out (by rw [Hn.out]; exact hin) hc (by omega) (by decide) (by omega) hown1 ((hB.alloc hB.size _).trans hB1) (int_eq (by omega)) (int_eq (by omega))
        case measure => simp [intOf]; omega
  · obtain rfl : k = n := by omega
    go_wp2_with (go_at_call 152; refine (refTrim_any l Hd.out _ _ hown.rd).mono ?_; rintro e w1 ⟨v1, rfl, hr1, hf1, hb1⟩)
    go_ret
    refine ⟨_, rfl, ?_, hf1 _ hown.from, hB.trans (hb1.mono hB.size)⟩
    rw [← minus_end Hv.out Hl.out Hd.out hc Hn.out.symm hxy]
    exact hr1
def TimesOut (x y N : Nat) (w : World) (g : Nat) (i : Value) (wr : World) : Prop :=
 ∃ (k : Nat) (o : List Nat), i = .int .i64 k ∧ OwnL encN 3 wr w.heap.size (.slice (some ⟨g, 0, none⟩) N N) o ∧ Below w.heap.size w wr ∧ o.length = N ∧ (∀ d ∈ o, d < 10) ∧
  val 10 o = val 10 ((digs 10 x).take k) * y ∧ k ≤ (digs 10 x).length
def TimesIn (x y N : Nat) (w : World) (g i : Nat) (carry kv : Value) (wr : World) : Prop :=
 ∃ (k c : Nat) (o : List Nat), kv = .int .i64 k ∧ carry = .int .i64 c ∧ OwnL encN 3 wr w.heap.size (.slice (some ⟨g, 0, none⟩) N N) o ∧ Below w.heap.size w wr ∧ o.length = N ∧ (∀ d ∈ o, d < 10) ∧ c ≤ 9 ∧
  val 10 o + 10 ^ (i + k) * c = val 10 ((digs 10 x).take i) * y + 10 ^ i * ((digs 10 x).getD i 0 * val 10 ((digs 10 y).take k)) ∧ (k ≤ (digs 10 y).length ∨ c = 0) ∧ k ≤ (digs 10 y).length + 1
theorem timesIn_eq {V y i k c da db p ov : Nat} {o b : List Nat} (hj : i + k < o.length) (hov : o[i + k] = ov) (hv : val 10 o + 10 ^ (i + k) * c = V * y + 10 ^ i * (da * val 10 (b.take k))) (hdb : b.getD k 0 = db) (hp : da * db = p) :
 val 10 (o.set (i + k) ((ov + c + p) % 10)) + 10 ^ (i + (k + 1)) * ((ov + c + p) / 10) = V * y + 10 ^ i * (da * val 10 (b.take (k + 1))) := by
 have h := mul_step (ab := p) hj hv
 rw [hov] at h
 rw [val_take_succ, hdb, Nat.mul_add da, ← Nat.mul_assoc da, Nat.mul_comm da (10 ^ k), Nat.mul_assoc (10 ^ k), hp, Nat.mul_add (10 ^ i), ← Nat.mul_assoc (10 ^ i) (10 ^ k), ← Nat.pow_add]
 have e : i + (k + 1) = i + k + 1 := by omega
 rw [e]
 omega
theorem set_digits {o : List Nat} {j d : Nat} (h : ∀ x ∈ o, x < 10) (hd : d < 10) : ∀ x ∈ o.set j d, x < 10 := by
 intro x hx
 rcases List.mem_or_eq_of_mem_set hx with h1 | h1
 · exact h x h1
 · omega
theorem timesIn_step {x y N : Nat} {w wr : World} {g i k c da db p ov : Nat} {o : List Nat} {c' k' u : Value}
 (hown : OwnL encN 3 wr w.heap.size (.slice (some ⟨g, 0, none⟩) N N) o) (hB : Below w.heap.size w wr) (hlo : o.length = N) (hdo : ∀ d ∈ o, d < 10) (hj : i + k < o.length) (hov : o[i + k] = ov) (hg : w.heap.size ≤ g)
 (hv : val 10 o + 10 ^ (i + k) * c = val 10 ((digs 10 x).take i) * y + 10 ^ i * ((digs 10 x).getD i 0 * val 10 ((digs 10 y).take k))) (hda : (digs 10 x).getD i 0 = da) (hdb : (digs 10 y).getD k 0 = db) (hp : da * db = p)
 (hb1 : ov < 10) (hb2 : c ≤ 9) (hb3 : p ≤ 81) (hk : k < (digs 10 y).length ∨ ov + c + p < 10) (hk2 : k ≤ (digs 10 y).length) (hk' : k' = .int .i64 ((k + 1 : Nat) : Int)) (hc' : c' = .int .i64 (((ov + c + p) / 10 : Nat) : Int)) (hu : u = encN ((ov + c + p) % 10)) (q : Nat) :
 TimesIn x y N w g i c' k' ((wr.drewN q).setCell ⟨g, i + k, none⟩ u) := by
 have hown' : OwnL encN 3 (wr.drewN q) w.heap.size (.slice (some ⟨g, 0, none⟩) N N) o := hown
 refine ⟨k + 1, _, _, hk', hc', hown'.set (i + k) hj ((ov + c + p) % 10) hu, (hB.drewN q).setCell hg _, by simpa using hlo, set_digits hdo (by omega), by omega, ?_, ?_, by omega⟩
 · rw [hda] at hv ⊢; exact timesIn_eq hj hov hv hdb hp
 · rcases hk with hk | hk
   · exact .inl hk
   · exact .inr (by omega)
set_option maxRecDepth 100000 in
theorem refTimes_any (x y : Nat) (va vb : Value) (w : World) (ha : Rd encN w va (digs 10 x)) (hb : Rd encN w vb (digs 10 y)) (hx : (digs 10 x).length ≤ 1000) (hy : (digs 10 y).length ≤ 1000) :
 Calls Tryz.prog 126 #[va, vb] w fun e w' => ∃ v, e = .returned v ∧ Rd encN w' v (digs 10 (x * y)) ∧ From w.heap.size v ∧ Below w.heap.size w w' := by
 obtain ⟨aa, ca, rfl, hca, hca2, hcella⟩ := ha.open'
 obtain ⟨ab, cb, rfl, hcb, hcb2, hcellb⟩ := hb.open'
 have Hca := Lib.hid hcella; clear hcella
 have Hcb := Lib.hid hcellb; clear hcellb
 clear ha hb
 obtain ⟨n, hn⟩ : ∃ n, (digs 10 x).length = n := ⟨_, rfl⟩
 obtain ⟨m, hm⟩ : ∃ n, (digs 10 y).length = n := ⟨_, rfl⟩
 have Hn := Lib.hid hn
 have Hm := Lib.hid hm
 rw [hn] at hca hx ⊢
 rw [hm] at hcb hy ⊢
 clear hn hm
 go_enter Tryz.func126, Tryz.ntmps126
 go_wp2_with (at_make; refine wpList_makeN (enc := encN) (e := 3) (B := w.heap.size) rfl _ _ 132 rfl 0 8 Tryz.underlying132 infoInt rfl .i64 .i64 _ _ (n + m) rfl rfl (by omega) (by omega) (by omega) (by decide) (Nat.le_refl _) ?_; intro w1 hown1 hB1)
 go_loopw [6] (fun i wr => TimesOut x y (n + m) w w.heap.size i wr) (fun i _ => (n - intOf i).toNat)
 case atStart => exact ⟨0, _, rfl, hown1, hB1, by simp, by simp, by simp [val, val_replicate_zero], Nat.zero_le _⟩
 case round =>
  obtain ⟨i, o, rfl, hown, hB, hlo, hdo, hvo, hio⟩ := hrel
  have Hlo := Lib.hid hlo; clear hlo
  have Hdo := Lib.hid hdo; clear hdo
  have Hvo := Lib.hid hvo; clear hvo
  have Hown := Lib.hid hown; clear hown
  clear hown1 hB1
  rw [Hn.out] at hio
  by_cases hin : i < n
  · obtain ⟨ba, oa, rfl, hba, hc1⟩ := Hca.out i (by rw [Hn.out]; omega)
    obtain ⟨da, eda⟩ : ∃ d, (digs 10 x)[i]'(by rw [Hn.out]; omega) = d := ⟨_, rfl⟩
    have hda : da < 10 := by rw [← eda]; exact digs_lt (by decide) x _ (List.getElem_mem _)
    have Hda := Lib.hid (show (digs 10 x).getD i 0 = da by rw [List.getD, List.getElem?_eq_getElem (by rw [Hn.out]; omega), eda]; rfl)
    rw [eda] at hc1
    clear eda
    obtain ⟨wo, hwo⟩ : ∃ wo : World, wo = wr := ⟨_, rfl⟩
    rw [← hwo] at Hown hB
    subst hwo
    have Hc1 := Lib.hid hc1; clear hc1
    go_wp2
    go_loopw [7, 8] (fun c k wr => TimesIn x y (n + m) w w.heap.size i c k wr) (fun _ k _ => (m + 2 - intOf k).toNat)
    case atStart => exact ⟨0, 0, o, rfl, rfl, Hown.out, hB, Hlo.out, Hdo.out, by omega, by rw [Hvo.out]; simp [val], .inl (Nat.zero_le _), by omega⟩
    case round =>
     obtain ⟨k, c, o2, rfl, rfl, hown, hB2, hlo2, hdo2, hc, hv2, hk, hk2⟩ := hrel
     rw [Hm.out] at hk hk2
     have Hlo2 := Lib.hid hlo2; clear hlo2
     have Hdo2 := Lib.hid hdo2; clear hdo2
     have Hv2 := Lib.hid hv2; clear hv2
     by_cases hkin : k < m ∨ 0 < c
     · have hj : i + k < o2.length := by rw [Hlo2.out]; omega
       have k1 := (hB2.cell (p := ⟨ba, oa + i, none⟩) hba).trans Hc1.out
       have k3 := hown.cell (i + k) hj
       have k4 := hown.free (i + k)
       obtain ⟨ov, eov⟩ : ∃ d, o2[i + k] = d := ⟨_, rfl⟩
       have hov : ov < 10 := by rw [← eov]; exact Hdo2.out _ (List.getElem_mem _)
       rw [eov] at k3
       have Eov := Lib.hid eov; clear eov
       have hbs := hB2.size
       by_cases hkm : k < m
       · obtain ⟨bb, ob, rfl, hbb, hc2⟩ := Hcb.out k (by rw [Hm.out]; omega)
         have k2 := (hB2.cell (p := ⟨bb, ob + k, none⟩) hbb).trans hc2
         obtain ⟨db, edb⟩ : ∃ d, (digs 10 y)[k]'(by rw [Hm.out]; omega) = d := ⟨_, rfl⟩
         have hdb : db < 10 := by rw [← edb]; exact digs_lt (by decide) y _ (List.getElem_mem _)
         have Hdb := Lib.hid (show (digs 10 y).getD k 0 = db by rw [List.getD, List.getElem?_eq_getElem (by rw [Hm.out]; omega), edb]; rfl)
         rw [edb] at k2
         obtain ⟨p, hp⟩ : ∃ p, da * db = p := ⟨_, rfl⟩
         have hp2 : p ≤ 81 := by rw [← hp]; exact Nat.mul_le_mul (by omega : da ≤ 9) (by omega : db ≤ 9)
         have Hp := Lib.hid hp
         have hp3 : (da : Int) * (db : Int) = (p : Int) := by rw [← hp]; simp
         clear hc2 edb hp
         go_wp2
         have hw1 : IntKind.i64.wrap (p : Int) = p := IntWalk.i64_in _ (by omega)
         have hw2 : IntKind.i64.wrap ((ov : Int) + c + p) = (ov : Int) + c + p := IntWalk.i64_in _ (by omega)
         go_quiet (fail)
         clear hw1 hw2
         go_wp2
         go_roundw
         case rel => exact timesIn_step hown hB2 Hlo2.out Hdo2.out hj Eov.out (Nat.le_refl _) Hv2.out Hda.out Hdb.out Hp.out hov hc hp2 (.inl (by rw [Hm.out]; exact hkm)) (by rw [Hm.out]; omega) (int_eq (by omega)) (int_eq (by omega)) (int_eq (by omega)) _
         case measure => simp [intOf]; omega
       · obtain rfl : k = m := by omega
         have Hdb := Lib.hid (show (digs 10 y).getD k 0 = 0 by rw [List.getD, List.getElem?_eq_none (by rw [Hm.out]; omega)]; rfl)
         have hsum : ov + c < 10 := by
          have h5 := mul_last (B := 10) (by decide) hj Hv2.out (by
           rw [show (digs 10 y).take k = digs 10 y from List.take_of_length_le (by rw [Hm.out]; omega), val_digs (n := y) (by decide)]
           have h6 := mul_bound (B := 10) (i := i) (lb := k) (a := digs 10 x) (b := digs 10 y) (digs_lt (by decide) x) (digs_lt (by decide) y) Hm.out (by rw [Hn.out]; exact hin)
           rw [val_digs (by decide), val_take_succ, Nat.add_mul, Nat.mul_assoc] at h6
           exact h6)
          rw [Eov.out] at h5; exact h5
         have hc0 : 0 < c := by omega
         go_wp2
         go_roundw
         case rel => exact timesIn_step (q := 0) (p := 0) hown hB2 Hlo2.out Hdo2.out hj Eov.out (Nat.le_refl _) Hv2.out Hda.out Hdb.out (by simp) hov hc (by omega) (.inr (by omega)) (by rw [Hm.out]; omega) (int_eq (by omega)) (int_eq (by omega)) (int_eq (by omega))
         case measure => simp [intOf]; omega
     · obtain rfl : c = 0 := by omega
       have h1 : decide (k < m) = false := by simp; omega
       go_wp2
       go_roundw
       case rel =>
        refine ⟨i + 1, o2, int_eq (by omega), hown, hB2, Hlo2.out, Hdo2.out, ?_, by rw [Hn.out]; omega⟩
        have h5 := Hv2.out
        rw [show (digs 10 y).take k = digs 10 y from List.take_of_length_le (by rw [Hm.out]; omega), val_digs (n := y) (by decide)] at h5
        rw [val_take_succ, Nat.add_mul, Nat.mul_assoc]
        omega
       case measure => simp [intOf]; omega
  · obtain rfl : i = n := by omega
    have hown2 := Hown.out
    go_wp2_with (go_at_call 152; refine (refTrim_any o Hdo.out _ _ hown2.rd).mono ?_; rintro e w1 ⟨v1, rfl, hr1, hf1, hb1⟩)
    go_ret
    refine ⟨_, rfl, ?_, hf1 _ hown2.from, hB.trans (hb1.mono hB.size)⟩
    have h5 := Hvo.out
    rw [List.take_of_length_le (by rw [Hn.out]; omega), val_digs (by decide)] at h5
    rwa [h5] at hr1
def DivOut (x y N : Nat) (w : World) (g : Nat) (rv i : Value) (wr : World) : Prop :=
 ∃ (j R : Nat) (q : List Nat), i = .int .i64 ((j : Int) - 1) ∧ Rd encN wr rv (digs 10 R) ∧ From w.heap.size rv ∧ OwnL encN 3 wr w.heap.size (.slice (some ⟨g, 0, none⟩) N N) q ∧ Below w.heap.size w wr ∧ DivInv 10 x y j R q ∧ j ≤ N
def DivIn (x y N : Nat) (w : World) (g : Nat) (j d R : Nat) (q : List Nat) (rv : Value) (wr : World) : Prop :=
 ∃ (t R2 : Nat), Rd encN wr rv (digs 10 R2) ∧ From w.heap.size rv ∧ OwnL encN 3 wr w.heap.size (.slice (some ⟨g, 0, none⟩) N N) (q.set j t) ∧ Below w.heap.size w wr ∧ R2 + t * y = d + 10 * R ∧ t ≤ 9
noncomputable def restOf (wr : World) (rv : Value) : Nat := open Classical in if h : ∃ R, Rd encN wr rv (digs 10 R) then h.choose else 0
theorem rd_length {wr : World} {rv : Value} {l m : List Nat} (h1 : Rd encN wr rv l) (h2 : Rd encN wr rv m) : l = m := by
 obtain ⟨a, c, rfl, _, _, k1⟩ := h1.open'
 obtain ⟨a2, c2, e, _, _, k2⟩ := h2.open'
 injection e with e1 e2 e3
 subst e1
 refine List.ext_getElem e2 fun i hi hi2 => ?_
 obtain ⟨b, off, ha, _, hc⟩ := k1 i hi
 obtain ⟨b2, off2, ha2, _, hc2⟩ := k2 i hi2
 rw [ha] at ha2
 injection ha2 with ha2; injection ha2 with e4 e5
 subst e4; subst e5
 rw [hc] at hc2
 simp only [Option.some.injEq, encN, Value.int.injEq, true_and] at hc2
 omega
theorem restOf_eq {wr : World} {rv : Value} {R : Nat} (h : Rd encN wr rv (digs 10 R)) : restOf wr rv = R := by
 have h2 : ∃ R, Rd encN wr rv (digs 10 R) := ⟨R, h⟩
 unfold restOf
 rw [dif_pos h2]
 exact digs_inj (B := 10) (by decide) (rd_length h2.choose_spec h)
theorem cmpN_ge0 {x y : Nat} (h : y ≤ x) : decide (0 ≤ cmpN x y) = true := by
 have : ¬ x < y := by omega
 simp only [cmpN, this, if_false, decide_eq_true_eq]
 split <;> decide
theorem cmpN_lt0 {x y : Nat} (h : x < y) : decide (0 ≤ cmpN x y) = false := by rw [cmpN_lt h]; rfl
theorem div_count {B R2 t y d R : Nat} (h : R2 + t * y = d + B * R) (h1 : y ≤ R2) (hd : d < B) (hR : R < y) : t + 1 < B := by
 have e : (t + 1) * y = t * y + y := Nat.succ_mul t y
 have h2 : B * (R + 1) ≤ B * y := Nat.mul_le_mul_left B hR
 rw [Nat.mul_add] at h2
 exact Nat.lt_of_mul_lt_mul_right (a := y) (by omega)
theorem divIn_eq {B R2 t y d R : Nat} (h : R2 + t * y = d + B * R) (h1 : y ≤ R2) : (R2 - y) + (t + 1) * y = d + B * R := by
 have e : (t + 1) * y = t * y + y := Nat.succ_mul t y
 omega
set_option maxRecDepth 100000 in
theorem refDivided_any (x y : Nat) (hy0 : 0 < y) (va vb : Value) (w : World) (ha : Rd encN w va (digs 10 x)) (hb : Rd encN w vb (digs 10 y)) (hx : (digs 10 x).length ≤ 900) (hy : (digs 10 y).length ≤ 900) :
 Calls Tryz.prog 138 #[va, vb] w fun e w' => ∃ v1 v2, e = .returned (.tuple #[v1, v2]) ∧ Rd encN w' v1 (digs 10 (x / y)) ∧ Rd encN w' v2 (digs 10 (x % y)) ∧ From w.heap.size v1 ∧ From w.heap.size v2 ∧ Below w.heap.size w w' := by
 obtain ⟨aa, ca, rfl, hca, hca2, hcella⟩ := ha.open'
 have Hca := Lib.hid hcella; clear hcella
 have Hb := Lib.hid hb
 clear ha hb
 obtain ⟨n, hn⟩ : ∃ n, (digs 10 x).length = n := ⟨_, rfl⟩
 have Hn := Lib.hid hn
 rw [hn] at hca hx ⊢
 clear hn
 go_enter Tryz.func138, Tryz.ntmps138
 go_wp2_with (at_make; refine wpList_makeN (enc := encN) (e := 3) (B := w.heap.size) rfl _ _ 132 rfl 0 8 Tryz.underlying132 infoInt rfl .i64 .i64 _ _ n rfl rfl rfl rfl (by omega) (by decide) (Nat.le_refl _) ?_; intro w1 hown1 hB1)
 go_loopw [7, 8] (fun rv i wr => DivOut x y n w w.heap.size rv i wr) (fun _ i _ => (intOf i + 1).toNat)
 case atStart => exact ⟨n, 0, _, rfl, .inl ⟨rfl, digs_zero 10⟩, From.nil _, hown1, hB1, by rw [← Hn.out]; exact DivInv.start hy0, Nat.le_refl _⟩
 case round =>
  obtain ⟨j, R, q, rfl, hr, hfr, hown, hB, hinv, hjn⟩ := hrel
  have Hinv := Lib.hid hinv; clear hinv
  have Hr := Lib.hid hr; clear hr
  have Hown := Lib.hid hown; clear hown
  clear hown1 hB1
  cases j with
  | zero =>
    go_wp2_with (go_at_call 152; refine (refTrim_any q (Hinv.out.digits (by decide)) _ _ Hown.out.rd).mono ?_; rintro e w1 ⟨v1, rfl, hr1, hf1, hb1⟩)
    go_ret2
    have e1 := Hinv.out.done (by decide)
    refine ⟨_, _, rfl, ?_, ?_, hf1 _ Hown.out.from, hfr, hB.trans (hb1.mono hB.size)⟩
    · rw [← e1.1]; exact hr1
    · rw [← e1.2]; exact Hr.out.below hb1
  | succ j =>
    obtain ⟨ba, oa, rfl, hba, hc1⟩ := Hca.out j (by rw [Hn.out]; omega)
    have k1 := (hB.cell (p := ⟨ba, oa + j, none⟩) hba).trans hc1
    obtain ⟨d, ed⟩ : ∃ d, (digs 10 x)[j]'(by rw [Hn.out]; omega) = d := ⟨_, rfl⟩
    have hd : d < 10 := by rw [← ed]; exact digs_lt (by decide) x _ (List.getElem_mem _)
    rw [ed] at k1
    have Ed := Lib.hid ed
    clear hc1 ed
    have hRy : R < y := by obtain ⟨_, _, _, _, _, h⟩ := Hinv.out; exact h
    have hRl := digs_length_mono (B := 10) (by decide) (Nat.le_of_lt hRy)
    have hld : ∀ z ∈ [d] ++ digs 10 R, z < 10 := by
     intro z hz
     rcases List.mem_append.1 hz with h | h
     · simp at h; omega
     · exact digs_lt (by decide) R z h
    have Hld := Lib.hid hld; clear hld
    have hbs := hB.size
    go_wp2_with (first | (at_builtin; refine wpList_appRd (enc := encN) (e := 3) rfl _ _ 132 rfl (.int .i64 0) 8 Tryz.underlying132 infoInt rfl encN_one rfl (OwnL.lit1 wr d rfl) rfl (Hr.out.below ((Below.refl _ _).alloc (Nat.le_refl _) _)) (by simp; omega) (by decide) (by simp) ?_; intro v' w1 hown1 hB1) | (go_at_call 152; refine (refTrim_any ([d] ++ digs 10 R) Hld.out _ _ hown1.rd).mono ?_; rintro e w2 ⟨v2, rfl, hr2, hf2, hb2⟩))
    rw [shift_val (by decide) hd] at hr2
    have hb12 : Below wr.heap.size wr w2 := (((Below.refl _ _).alloc (Nat.le_refl _) _).trans hB1).trans (hb2.mono (by have := hB1.size; simp at this; omega))
    have hownq : OwnL encN 3 w2 w.heap.size (.slice (some ⟨w.heap.size, 0, none⟩) n n) (q.set j 0) := by
     have e0 : q.set j 0 = q := by
      have hjq : j < q.length := by rw [Hinv.out.length, Hn.out]; omega
      have e1 := Hinv.out.zero hjq
      apply List.ext_getElem (by simp)
      intro i h1 h2
      rw [List.getElem_set]
      split
      · rename_i e; subst e; exact e1.symm
      · rfl
     rw [e0]; exact Hown.out.belowTo hb12
    have hB2 : Below w.heap.size w w2 := hB.trans (hb12.mono hB.size)
    have hql : q.length = n := by rw [Hinv.out.length, Hn.out]
    have Hql := Lib.hid hql; clear hql
    have hown1f := hown1.from
    clear k1 hown1 hB1 hb2 hb12
    go_loopw [7] (fun rv wr => DivIn x y n w w.heap.size j d R q rv wr) (fun rv wr => restOf wr rv)
    case atStart => exact ⟨0, _, hr2, (hf2 _ hown1f).mono hB.size, hownq, hB2, by omega, by omega⟩
    case round =>
     obtain ⟨t, R2, hr3, hfr3, hown3, hB3, hv3, ht⟩ := hrel
     have Hv3 := Lib.hid hv3; clear hv3
     clear hr2 hownq hB2 hbs
     have hR2l : (digs 10 R2).length ≤ (digs 10 y).length + 1 := by
      have h1 := digs_length_mono (B := 10) (by decide) (show R2 ≤ d + 10 * R by have := Hv3.out; omega)
      have h2 := digs_length_shift (B := 10) (by decide) hd hRy
      omega
     have hb3 := Hb.out.below (hB3.mono (Nat.le_refl _))
     by_cases hge : y ≤ R2
     · have hcmp := cmpN_ge0 hge
       have Ht := Lib.hid (div_count Hv3.out hge hd hRy)
       go_wp2_with (first | (go_at_call 137; refine (refOrder_any R2 y _ _ _ hr3 hb3).mono ?_; rintro e w4 ⟨rfl, hb4⟩) | (go_at_call 140; refine (refMinus_any R2 y hge _ _ _ (hr3.below hb4) (hb3.below hb4) (by omega)).mono ?_; rintro e w5 ⟨v5, rfl, hr5, hf5, hb5⟩; have k3 := ((hown3.belowTo hb4).belowTo hb5).cell j (by rw [List.length_set, Hql.out]; omega); have k4 := ((hown3.belowTo hb4).belowTo hb5).free j; rw [List.getElem_set_self] at k3))
       have ho5 := (hown3.belowTo hb4).belowTo hb5
       have hB5 : Below w.heap.size w w5 := (hB3.trans (hb4.mono hB3.size)).trans (hb5.mono (Nat.le_trans hB3.size hb4.size))
       have hr6 : Rd encN (w5.setCell ⟨w.heap.size, j, none⟩ (.int .i64 ((t : Int) + 1))) v5 (digs 10 (R2 - y)) := hr5.setCell hf5 (by have := hown3.row.2.2.1; have := hb4.size; simp; omega) _
       go_roundw
       case rel =>
        refine ⟨t + 1, R2 - y, hr6, hf5.mono (Nat.le_trans hB3.size hb4.size), ?_, hB5.setCell (Nat.le_refl _) _, divIn_eq Hv3.out hge, by have := Ht.out; omega⟩
        have h7 := ho5.set j (by rw [List.length_set, Hql.out]; omega) (t + 1) (u := .int .i64 ((t : Int) + 1)) (int_eq (by omega))
        rwa [List.set_set] at h7
       case measure => rw [restOf_eq hr6, restOf_eq hr3]; omega
     · have hcmp := cmpN_lt0 (show R2 < y by omega)
       go_wp2_with (go_at_call 137; refine (refOrder_any R2 y _ _ _ hr3 hb3).mono ?_; rintro e w4 ⟨rfl, hb4⟩)
       go_roundw
       case rel =>
        refine ⟨j, R2, _, by go_num, hr3.below hb4, hfr3, hown3.belowTo hb4, hB3.trans (hb4.mono hB3.size), Hinv.out.step (by rw [Hn.out]; omega) Ed.out Hv3.out (by omega) (by omega), by omega⟩
       case measure => simp [intOf]
theorem infoByte : (Tryz.prog.info? 5).map (fun i => (i.zero, i.size, i.bytes)) = some (some (.int .u8 0), 1, 1) := by kernel_rfl
theorem appB {w : World} {ops : Array Oper} {rest : List Oper} {o : Oper} {a : Act} {Q : Exit → Act → World → Prop} {B : Nat} {v : Value} {l : List UInt8} (hgd : o.guard = none) (s x : Operand)
 (ho : o.op = .call { callee := .builtin .append, args := #[s, x], argTypes := #[51, 51] }) (hs : a.eval s = v) (hown : OwnL encB 5 w B v l) (b : Nat) (c : Nat) (u : Value)
 (hx : a.eval x = .slice (some ⟨b, 0, none⟩) 1 c) (hc : w.cell? ⟨b, 0, none⟩ = some u) (y : UInt8) (hu : u = encB y) (hlen : l.length + 1 ≤ 1099511627776) (hB : B ≤ w.heap.size)
 (h : ∀ v' w', OwnL encB 5 w' B v' (l ++ [y]) → Below B w w' → wpList Tryz.prog ops Q rest (a.put o.dst v') w') : wpList Tryz.prog ops Q (o :: rest) a w :=
 wpList_app1 hgd s x 51 ho (.int .u8 0) 1 Tryz.underlying51 infoByte rfl encB_one hs hown ⟨b, 0, none⟩ c u hx hc y hu hlen (by decide) hB h
theorem runStr (w : World) {v : Value} {l : List UInt8} (h : Rd encB w v l) : (Go.convert 51 9 v).run Tryz.prog w = .ok (.string ⟨l.toArray⟩) w :=
 run_string w 51 9 5 Tryz.underlying51 Tryz.underlying5 Tryz.underlying9 h
def chr (d : Nat) : UInt8 := UInt8.ofNat (48 + d)
theorem ofI_sgn {neg : Bool} {x : Nat} (h : x ≠ 0) : ofI (sgn neg x) = ⟨((if neg then [45] else []) ++ ((digs 10 x).reverse.map chr)).toArray⟩ := by
 apply ba_ext
 rw [ofI_list]
 have e : Lib.decDigits x = (digs 10 x).reverse.map chr := by rw [decDigits_digs, if_neg h]; rfl
 cases neg with
 | true => rw [sgn, if_pos rfl, itoa_neg (by omega), show (-(x : Int)).natAbs = x by omega, e]; rfl
 | false => rw [sgn, if_neg (by decide), itoa_pos (by omega), show ((x : Int)).natAbs = x by omega, e]; rfl
theorem chr_step (l : List Nat) (k : Nat) (h : k < l.length) : (l.reverse.take (k + 1)).map chr = (l.reverse.take k).map chr ++ [chr (l[l.length - 1 - k])] := by
 rw [List.take_add_one, List.getElem?_reverse h, List.getElem?_eq_getElem (by omega)]
 simp
set_option maxRecDepth 100000 in
theorem refText_any (neg : Bool) (x : Nat) (v : Value) (w : World) (hv : Rd encN w v (digs 10 x)) (hx : (digs 10 x).length ≤ 1000) :
 Calls Tryz.prog 120 #[.bool neg, v] w fun e w' => e = .returned (.tuple #[.string (ofI (sgn neg x)), .bool (decide (x < BIG))]) ∧ Below w.heap.size w w' := by
 by_cases h0 : x = 0
 · subst h0
   obtain ⟨a, c, rfl, hc, hc2, hcell⟩ := hv.open'
   rw [digs_zero] at hcell hc ⊢
   simp only [List.length_nil] at hcell hc ⊢
   have e1 : ofI (sgn neg 0) = ⟨#[48]⟩ := by cases neg <;> decide +kernel
   have e2 : decide (0 < BIG) = true := by decide +kernel
   rw [e1, e2]
   clear hcell hv hx e1 e2
   go_enter Tryz.func120, Tryz.ntmps120
   go_wp2
   go_ret2
   exact ⟨rfl, Below.refl _ _⟩
 · obtain ⟨a, c, rfl, hc, hc2, hcell⟩ := hv.open'
   have Hc := Lib.hid hcell; clear hcell
   have hnil : digs 10 x ≠ [] := fun e => h0 ((digs_eq_nil (by decide)).1 e)
   have e3 := digs_length_le (B := 10) (by decide) x 200
   obtain ⟨n, hn⟩ : ∃ n, (digs 10 x).length = n := ⟨_, rfl⟩
   have hn0 : 0 < n := by rw [← hn]; exact List.length_pos_iff.2 hnil
   have He : Hid (decide (x < BIG) = decide (n ≤ 200)) := by
    show decide (x < BIG) = decide (n ≤ 200)
    rw [← hn]; unfold BIG; rw [decide_eq_decide]; exact e3.symm
   have Hs := Lib.hid (ofI_sgn (neg := neg) h0)
   have Hn := Lib.hid hn
   rw [hn] at hc hx ⊢
   clear hn e3 hnil h0 hv
   have hc0 : ((n : Int) == 0) = false := by rw [beq_eq_false_iff_ne]; omega
   have key : ∀ (pre : List UInt8) (v0 : Value) (w0 : World) (j : Nat), pre.length ≤ 1 → OwnL encB 5 w0 w.heap.size v0 (pre ++ ((digs 10 x).reverse.take (n - j)).map chr) → (pre ++ ((digs 10 x).reverse.take (n - j)).map chr).length ≤ 2000 := by
    intro pre v0 w0 j h1 h2
    rw [List.length_append, List.length_map, List.length_take]; omega
   have Hkey := Lib.hid key; clear key
   cases neg
   · go_enter Tryz.func120, Tryz.ntmps120
     go_wp2
     go_loopw [6, 7] (fun out i wr => ∃ j : Nat, j ≤ n ∧ i = .int .i64 ((j : Int) - 1) ∧ OwnL encB 5 wr w.heap.size out (([] : List UInt8) ++ ((digs 10 x).reverse.take (n - j)).map chr) ∧ Below w.heap.size w wr) (fun _ i _ => (intOf i + 1).toNat)
     case atStart => exact ⟨n, Nat.le_refl _, rfl, by rw [Nat.sub_self]; exact OwnL.nil _ _, Below.refl _ _⟩
     case round =>
      obtain ⟨j, hj, rfl, hown, hB⟩ := hrel
      have hlen := Hkey.out [] _ _ j (by decide) hown
      cases j with
      | zero =>
        have hcv := runStr wr hown.rd
        rw [Nat.sub_zero, List.take_of_length_le (by rw [List.length_reverse, Hn.out]; exact Nat.le_refl _)] at hcv
        rw [show (⟨(([] : List UInt8) ++ (digs 10 x).reverse.map chr).toArray⟩ : ByteArray) = ofI (sgn false x) from Hs.out.symm] at hcv
        go_wp2
        go_ret2
        exact ⟨ret_pair rfl (by rw [He.out]; exact bool_eq (by omega)), hB⟩
      | succ m =>
        obtain ⟨b, off, rfl, hb, hc1⟩ := Hc.out m (by rw [Hn.out]; omega)
        have k1 := (hB.cell (p := ⟨b, off + m, none⟩) hb).trans hc1
        obtain ⟨d, ed⟩ : ∃ d, (digs 10 x)[m]'(by rw [Hn.out]; omega) = d := ⟨_, rfl⟩
        have hd : d < 10 := by rw [← ed]; exact digs_lt (by decide) x _ (List.getElem_mem _)
        rw [ed] at k1
        have Ed := Lib.hid ed
        clear hc1 ed
        have hbs := hB.size
        go_wp2_with (at_builtin; refine appB rfl _ _ rfl rfl (hown.alloc _) wr.heap.size 1 _ rfl (cell_new1 _ _ _) (chr d) (int_eq (by simp [chr]; omega)) (by omega) (by simp; omega) ?_; intro v' w1 hown1 hB1)
        go_roundw
        case rel =>
         refine ⟨m, by omega, by go_num, ?_, ((hB.alloc hB.size _).trans hB1)⟩
         have e := chr_step (digs 10 x) (n - (m + 1)) (by rw [Hn.out]; omega)
         rw [show n - (m + 1) + 1 = n - m by omega] at e
         rw [e, ← List.append_assoc]
         simpa only [Hn.out, show n - 1 - (n - (m + 1)) = m by omega, Ed.out] using hown1
        case measure => simp [intOf]
   · go_enter Tryz.func120, Tryz.ntmps120
     go_wp2_with (at_builtin; refine appB rfl _ _ rfl rfl ((OwnL.nil w w.heap.size).alloc _) w.heap.size 1 _ rfl (cell_new1 _ _ _) 45 (int_eq (by decide)) (by simp) (by simp) ?_; intro v0 w0 hown0 hB0)
     go_loopw [6, 7] (fun out i wr => ∃ j : Nat, j ≤ n ∧ i = .int .i64 ((j : Int) - 1) ∧ OwnL encB 5 wr w.heap.size out ([45] ++ ((digs 10 x).reverse.take (n - j)).map chr) ∧ Below w.heap.size w wr) (fun _ i _ => (intOf i + 1).toNat)
     case atStart => exact ⟨n, Nat.le_refl _, rfl, by rw [Nat.sub_self]; exact hown0, ((Below.refl _ _).alloc (Nat.le_refl _) _).trans hB0⟩
     case round =>
      obtain ⟨j, hj, rfl, hown, hB⟩ := hrel
      have hlen := Hkey.out [45] _ _ j (by decide) hown
      cases j with
      | zero =>
        have hcv := runStr wr hown.rd
        rw [Nat.sub_zero, List.take_of_length_le (by rw [List.length_reverse, Hn.out]; exact Nat.le_refl _)] at hcv
        rw [show (⟨(([45] : List UInt8) ++ (digs 10 x).reverse.map chr).toArray⟩ : ByteArray) = ofI (sgn true x) from Hs.out.symm] at hcv
        go_wp2
        go_ret2
        exact ⟨ret_pair rfl (by rw [He.out]; exact bool_eq (by omega)), hB⟩
      | succ m =>
        obtain ⟨b, off, rfl, hb, hc1⟩ := Hc.out m (by rw [Hn.out]; omega)
        have k1 := (hB.cell (p := ⟨b, off + m, none⟩) hb).trans hc1
        obtain ⟨d, ed⟩ : ∃ d, (digs 10 x)[m]'(by rw [Hn.out]; omega) = d := ⟨_, rfl⟩
        have hd : d < 10 := by rw [← ed]; exact digs_lt (by decide) x _ (List.getElem_mem _)
        rw [ed] at k1
        have Ed := Lib.hid ed
        clear hc1 ed
        have hbs := hB.size
        go_wp2_with (at_builtin; refine appB rfl _ _ rfl rfl (hown.alloc _) wr.heap.size 1 _ rfl (cell_new1 _ _ _) (chr d) (int_eq (by simp [chr]; omega)) (by omega) (by simp; omega) ?_; intro v' w1 hown1 hB1)
        go_roundw
        case rel =>
         refine ⟨m, by omega, by go_num, ?_, ((hB.alloc hB.size _).trans hB1)⟩
         have e := chr_step (digs 10 x) (n - (m + 1)) (by rw [Hn.out]; omega)
         rw [show n - (m + 1) + 1 = n - m by omega] at e
         rw [e, ← List.append_assoc]
         simpa only [Hn.out, show n - 1 - (n - (m + 1)) = m by omega, Ed.out] using hown1
        case measure => simp [intOf]
abbrev vSE (r : SE) : Value := .tuple #[.string r.1, .int .i64 r.2]
theorem chkI_yes {n : Int} (h : n.natAbs < BIG) : chkI n = (ofI n, 0) := by simp [chkI, h]
theorem chkI_no {n : Int} (h : ¬ n.natAbs < BIG) : chkI n = (ByteArray.empty, 30) := by simp [chkI, h]
set_option maxRecDepth 100000 in
theorem refChecked_any (neg : Bool) (x : Nat) (v : Value) (w : World) (hv : Rd encN w v (digs 10 x)) (hx : (digs 10 x).length ≤ 1000) :
 Calls Tryz.prog 125 #[.bool neg, v] w fun e w' => e = .returned (vSE (chkI (sgn neg x))) ∧ Below w.heap.size w w' := by
 by_cases h : x < BIG
 · rw [chkI_yes (by rw [sgn_abs]; exact h)]
   have h2 : decide (x < BIG) = true := by simp [h]
   have Hc := Lib.hid (refText_any neg x v w hv hx)
   rw [h2] at Hc
   clear h h2 hv hx
   go_enter Tryz.func125, Tryz.ntmps125
   go_wp2_with (go_at_call 120; refine Hc.out.mono ?_; rintro e w1 ⟨rfl, hb⟩)
   go_ret2
   exact ⟨rfl, hb⟩
 · rw [chkI_no (by rw [sgn_abs]; exact h)]
   have h2 : decide (x < BIG) = false := by simp [h]
   have Hc := Lib.hid (refText_any neg x v w hv hx)
   rw [h2] at Hc
   clear h h2 hv hx
   go_enter Tryz.func125, Tryz.ntmps125
   go_wp2_with (go_at_call 120; refine Hc.out.mono ?_; rintro e w1 ⟨rfl, hb⟩)
   go_ret2
   exact ⟨rfl, hb⟩
theorem digs_len_of_lt {x k : Nat} (h : x < 10 ^ k) : (digs 10 x).length ≤ k := (digs_length_le (by decide) x k).2 h
theorem sum_len {x y : Nat} (h1 : (digs 10 x).length ≤ 200) (h2 : (digs 10 y).length ≤ 200) : (digs 10 (x + y)).length ≤ 1000 := by
 have h3 := (digs_length_le (B := 10) (by decide) x 200).1 h1
 have h4 := (digs_length_le (B := 10) (by decide) y 200).1 h2
 have h5 := digs_len_of_lt (x := x + y) (k := 201) (by rw [Nat.pow_succ]; omega)
 omega
theorem diff_len {x y : Nat} (h1 : (digs 10 x).length ≤ 200) : (digs 10 (x - y)).length ≤ 1000 := by
 have := digs_length_mono (B := 10) (by decide) (Nat.sub_le x y)
 omega
set_option maxRecDepth 100000 in
theorem refSum_any (x : Bool) (a : Nat) (va : Value) (y : Bool) (b : Nat) (vb : Value) (w : World) (ha : Rd encN w va (digs 10 a)) (hb : Rd encN w vb (digs 10 b)) (hx : (digs 10 a).length ≤ 200) (hy : (digs 10 b).length ≤ 200) :
 Calls Tryz.prog 130 #[.bool x, va, .bool y, vb] w fun e w' => e = .returned (vSE (chkI (sgn x a + sgn y b))) ∧ Below w.heap.size w w' := by
 have same : ∀ z : Bool, x = z → y = z → Calls Tryz.prog 130 #[.bool z, va, .bool z, vb] w fun e w' => e = .returned (vSE (chkI (sgn x a + sgn y b))) ∧ Below w.heap.size w w' := by
  rintro z rfl h
  have e1 : sgn x a + sgn y b = sgn x (a + b) := by rw [h]; cases x <;> simp [sgn] <;> omega
  rw [e1]
  clear h e1
  cases x
  all_goals
   go_enter Tryz.func130, Tryz.ntmps130
   go_wp2_with (first | (go_at_call 139; refine (refPlus_any a b _ _ _ ha hb (by omega) (by omega)).mono ?_; rintro e w1 ⟨v1, rfl, hr1, hf1, hb1⟩) | (go_at_call 125; refine (refChecked_any _ _ _ _ hr1 (sum_len hx hy)).mono ?_; rintro e w2 ⟨rfl, hb2⟩))
   go_ret2
   exact ⟨rfl, hb1.trans (hb2.mono hb1.size)⟩
 have other : ∀ z u : Bool, x = z → y = u → z ≠ u → Calls Tryz.prog 130 #[.bool z, va, .bool u, vb] w fun e w' => e = .returned (vSE (chkI (sgn x a + sgn y b))) ∧ Below w.heap.size w w' := by
  rintro z u rfl rfl hne
  by_cases hge : b ≤ a
  · have e1 : sgn x a + sgn y b = sgn x (a - b) := by cases x <;> cases y <;> simp [sgn] at hne ⊢ <;> omega
    rw [e1]
    have hcmp := cmpN_ge0 hge
    clear e1
    cases x <;> cases y <;> first | exact absurd rfl hne | skip
    all_goals
     clear hne
     go_enter Tryz.func130, Tryz.ntmps130
     go_wp2_with (first | (go_at_call 137; refine (refOrder_any a b _ _ _ ha hb).mono ?_; rintro e w0 ⟨rfl, hb0⟩) | (go_at_call 140; refine (refMinus_any a b hge _ _ _ (ha.below hb0) (hb.below hb0) (by omega)).mono ?_; rintro e w1 ⟨v1, rfl, hr1, hf1, hb1⟩) | (go_at_call 125; refine (refChecked_any _ _ _ _ hr1 (diff_len hx)).mono ?_; rintro e w2 ⟨rfl, hb2⟩))
     go_ret2
     exact ⟨rfl, (hb0.trans (hb1.mono hb0.size)).trans (hb2.mono (Nat.le_trans hb0.size hb1.size))⟩
  · have e1 : sgn x a + sgn y b = sgn y (b - a) := by cases x <;> cases y <;> simp [sgn] at hne ⊢ <;> omega
    rw [e1]
    have hcmp := cmpN_lt0 (show a < b by omega)
    clear e1
    cases x <;> cases y <;> first | exact absurd rfl hne | skip
    all_goals
     clear hne
     go_enter Tryz.func130, Tryz.ntmps130
     go_wp2_with (first | (go_at_call 137; refine (refOrder_any a b _ _ _ ha hb).mono ?_; rintro e w0 ⟨rfl, hb0⟩) | (go_at_call 140; refine (refMinus_any b a (by omega) _ _ _ (hb.below hb0) (ha.below hb0) (by omega)).mono ?_; rintro e w1 ⟨v1, rfl, hr1, hf1, hb1⟩) | (go_at_call 125; refine (refChecked_any _ _ _ _ hr1 (diff_len hy)).mono ?_; rintro e w2 ⟨rfl, hb2⟩))
     go_ret2
     exact ⟨rfl, (hb0.trans (hb1.mono hb0.size)).trans (hb2.mono (Nat.le_trans hb0.size hb1.size))⟩
 by_cases h : x = y
 · have := same x rfl h.symm
   rwa [← h] at this ⊢
 · exact other x y rfl rfl h
theorem refDigitsN (s : ByteArray) (w : World) (hs : vld s.data.toList = true) :
 Calls Tryz.prog 124 #[.string s] w fun e w' => ∃ v, e = .returned (.tuple #[.bool (negB s.data.toList), v]) ∧ Rd encN w' v (digs 10 (nS s).natAbs) ∧ From w.heap.size v ∧ Below w.heap.size w w' := refDigits_any s w hs
set_option maxRecDepth 100000 in
theorem refAdd_any (a b : ByteArray) (w : World) (hsa : a.size ≤ maxLen) (hsb : b.size ≤ maxLen) :
 Calls Tryz.prog 102 #[.string a, .string b] w fun e w' => e = .returned (vSE (iAdd a b)) ∧ Below w.heap.size w w' := by
 by_cases ha : vS a = true
 · have hva : vld a.data.toList = true := ha
   by_cases hb : vS b = true
   · have hvb : vld b.data.toList = true := hb
     have e1 : iAdd a b = chkI (sgn (negB a.data.toList) (nS a).natAbs + sgn (negB b.data.toList) (nS b).natAbs) := by
      rw [← nS_sgn, ← nS_sgn]; simp [iAdd, ha, hb]
     rw [e1]
     have hla := digs_len_200 (nS_lt ha)
     have hlb := digs_len_200 (nS_lt hb)
     clear e1 ha hb
     go_enter Tryz.func102, Tryz.ntmps102
     go_wp2_with (first | (go_at_call 108; refine (refValid_any _ _ (by assumption)).mono ?_; rintro e w0 ⟨rfl, rfl⟩) | (go_at_call 124; (with_reducible refine (refDigitsN a _ hva).mono ?_); rintro e w1 ⟨v1, rfl, hr1, hf1, hb1⟩) | (go_at_call 124; (with_reducible refine (refDigitsN b _ hvb).mono ?_); rintro e w2 ⟨v2, rfl, hr2, hf2, hb2⟩) | (go_at_call 130; refine (refSum_any _ _ _ _ _ _ _ (hr1.below hb2) hr2 hla hlb).mono ?_; rintro e w3 ⟨rfl, hb3⟩))
     go_ret2
     exact ⟨rfl, (hb1.trans (hb2.mono hb1.size)).trans (hb3.mono (Nat.le_trans hb1.size hb2.size))⟩
   · have hvb : vld b.data.toList = false := by simpa [vS] using hb
     have e1 : iAdd a b = (ByteArray.empty, 30) := by simp [iAdd, hb]
     rw [e1]
     clear e1 ha hb
     go_enter Tryz.func102, Tryz.ntmps102
     go_wp2_with (go_at_call 108; refine (refValid_any _ _ (by assumption)).mono ?_; rintro e w0 ⟨rfl, rfl⟩)
     go_ret2
     exact ⟨rfl, Below.refl _ _⟩
 · have hva : vld a.data.toList = false := by simpa [vS] using ha
   have e1 : iAdd a b = (ByteArray.empty, 30) := by simp [iAdd, ha]
   rw [e1]
   clear e1 ha
   go_enter Tryz.func102, Tryz.ntmps102
   go_wp2_with (go_at_call 108; refine (refValid_any _ _ (by assumption)).mono ?_; rintro e w0 ⟨rfl, rfl⟩)
   go_ret2
   exact ⟨rfl, Below.refl _ _⟩
theorem sgn_not (x : Bool) (n : Nat) : sgn (!x) n = -sgn x n := by cases x <;> simp [sgn]
set_option maxRecDepth 100000 in
theorem refSub_any (a b : ByteArray) (w : World) (hsa : a.size ≤ maxLen) (hsb : b.size ≤ maxLen) :
 Calls Tryz.prog 103 #[.string a, .string b] w fun e w' => e = .returned (vSE (iSub a b)) ∧ Below w.heap.size w w' := by
 by_cases ha : vS a = true
 · have hva : vld a.data.toList = true := ha
   by_cases hb : vS b = true
   · have hvb : vld b.data.toList = true := hb
     have e1 : iSub a b = chkI (sgn (negB a.data.toList) (nS a).natAbs + sgn (!(negB b.data.toList)) (nS b).natAbs) := by
      rw [sgn_not, ← nS_sgn, ← nS_sgn, ← Int.sub_eq_add_neg]; simp [iSub, ha, hb]
     rw [e1]
     have hla := digs_len_200 (nS_lt ha)
     have hlb := digs_len_200 (nS_lt hb)
     clear e1 ha hb
     go_enter Tryz.func103, Tryz.ntmps103
     go_wp2_with (first | (go_at_call 108; refine (refValid_any _ _ (by assumption)).mono ?_; rintro e w0 ⟨rfl, rfl⟩) | (go_at_call 124; (with_reducible refine (refDigitsN a _ hva).mono ?_); rintro e w1 ⟨v1, rfl, hr1, hf1, hb1⟩) | (go_at_call 124; (with_reducible refine (refDigitsN b _ hvb).mono ?_); rintro e w2 ⟨v2, rfl, hr2, hf2, hb2⟩) | (go_at_call 130; refine (refSum_any _ _ _ _ _ _ _ (hr1.below hb2) hr2 hla hlb).mono ?_; rintro e w3 ⟨rfl, hb3⟩))
     go_ret2
     exact ⟨rfl, (hb1.trans (hb2.mono hb1.size)).trans (hb3.mono (Nat.le_trans hb1.size hb2.size))⟩
   · have hvb : vld b.data.toList = false := by simpa [vS] using hb
     have e1 : iSub a b = (ByteArray.empty, 30) := by simp [iSub, hb]
     rw [e1]
     clear e1 ha hb
     go_enter Tryz.func103, Tryz.ntmps103
     go_wp2_with (go_at_call 108; refine (refValid_any _ _ (by assumption)).mono ?_; rintro e w0 ⟨rfl, rfl⟩)
     go_ret2
     exact ⟨rfl, Below.refl _ _⟩
 · have hva : vld a.data.toList = false := by simpa [vS] using ha
   have e1 : iSub a b = (ByteArray.empty, 30) := by simp [iSub, ha]
   rw [e1]
   clear e1 ha
   go_enter Tryz.func103, Tryz.ntmps103
   go_wp2_with (go_at_call 108; refine (refValid_any _ _ (by assumption)).mono ?_; rintro e w0 ⟨rfl, rfl⟩)
   go_ret2
   exact ⟨rfl, Below.refl _ _⟩
theorem sgn_mulR (x y : Bool) (m n : Nat) : sgn (x != y) (m * n) = sgn x m * sgn y n := by cases x <;> cases y <;> simp [sgn, Int.neg_mul, Int.mul_neg]
theorem prod_lt {x y k : Nat} (h3 : x < 10 ^ k) (h4 : y < 10 ^ k) : (digs 10 (x * y)).length ≤ k + k := digs_len_of_lt (by rw [Nat.pow_add]; exact Nat.mul_lt_mul'' h3 h4)
theorem prod_len {x y : Nat} (h1 : (digs 10 x).length ≤ 200) (h2 : (digs 10 y).length ≤ 200) : (digs 10 (x * y)).length ≤ 1000 := by
 have h3 := (digs_length_le (B := 10) (by decide) x 200).1 h1
 have h4 := (digs_length_le (B := 10) (by decide) y 200).1 h2
 have h5 := prod_lt h3 h4
 omega
set_option maxRecDepth 100000 in
theorem refMul_any (a b : ByteArray) (w : World) (hsa : a.size ≤ maxLen) (hsb : b.size ≤ maxLen) :
 Calls Tryz.prog 96 #[.string a, .string b] w fun e w' => e = .returned (vSE (iMul a b)) ∧ Below w.heap.size w w' := by
 by_cases ha : vS a = true
 · have hva : vld a.data.toList = true := ha
   by_cases hb : vS b = true
   · have hvb : vld b.data.toList = true := hb
     have e1 : iMul a b = chkI (sgn ((negB a.data.toList) != (negB b.data.toList)) ((nS a).natAbs * (nS b).natAbs)) := by
      rw [sgn_mulR, ← nS_sgn, ← nS_sgn]; simp [iMul, ha, hb]
     rw [e1]
     have hla := digs_len_200 (nS_lt ha)
     have hlb := digs_len_200 (nS_lt hb)
     clear e1 ha hb
     go_enter Tryz.func96, Tryz.ntmps96
     go_wp2_with (first | (go_at_call 108; refine (refValid_any _ _ (by assumption)).mono ?_; rintro e w0 ⟨rfl, rfl⟩) | (go_at_call 124; (with_reducible refine (refDigitsN a _ hva).mono ?_); rintro e w1 ⟨v1, rfl, hr1, hf1, hb1⟩) | (go_at_call 124; (with_reducible refine (refDigitsN b _ hvb).mono ?_); rintro e w2 ⟨v2, rfl, hr2, hf2, hb2⟩) | (go_at_call 126; refine (refTimes_any _ _ _ _ _ (hr1.below hb2) hr2 (by omega) (by omega)).mono ?_; rintro e w3 ⟨v3, rfl, hr3, hf3, hb3⟩) | (go_at_call 125; refine (refChecked_any _ _ _ _ hr3 (prod_len hla hlb)).mono ?_; rintro e w4 ⟨rfl, hb4⟩))
     go_ret2
     exact ⟨rfl, ((hb1.trans (hb2.mono hb1.size)).trans (hb3.mono (Nat.le_trans hb1.size hb2.size))).trans (hb4.mono (Nat.le_trans hb1.size (Nat.le_trans hb2.size hb3.size)))⟩
   · have hvb : vld b.data.toList = false := by simpa [vS] using hb
     have e1 : iMul a b = (ByteArray.empty, 30) := by simp [iMul, hb]
     rw [e1]
     clear e1 ha hb
     go_enter Tryz.func96, Tryz.ntmps96
     go_wp2_with (go_at_call 108; refine (refValid_any _ _ (by assumption)).mono ?_; rintro e w0 ⟨rfl, rfl⟩)
     go_ret2
     exact ⟨rfl, Below.refl _ _⟩
 · have hva : vld a.data.toList = false := by simpa [vS] using ha
   have e1 : iMul a b = (ByteArray.empty, 30) := by simp [iMul, ha]
   rw [e1]
   clear e1 ha
   go_enter Tryz.func96, Tryz.ntmps96
   go_wp2_with (go_at_call 108; refine (refValid_any _ _ (by assumption)).mono ?_; rintro e w0 ⟨rfl, rfl⟩)
   go_ret2
   exact ⟨rfl, Below.refl _ _⟩
theorem neg_iff {s : ByteArray} (h : vS s = true) : negB s.data.toList = true ↔ nS s < 0 := by
 have h1 := itoa_head (nS s)
 rw [show Lib.itoa (nS s) = s.data.toList from itoa_toI h] at h1
 simpa [negB] using h1
theorem cmp_mixed {x y : Int} (hx : x < 0) (hy : 0 ≤ y) : cmpI x y = -1 ∧ cmpI y x = 1 := by
 unfold cmpI
 constructor
 · rw [if_pos (by omega)]
 · rw [if_neg (by omega), if_pos (by omega)]
set_option maxRecDepth 100000 in
theorem refCompare_truefalse (a b : ByteArray) (w : World) (hva : vld a.data.toList = true) (hvb : vld b.data.toList = true) (hsa : a.size ≤ maxLen) (hsb : b.size ≤ maxLen) (hx : negB a.data.toList = true) (hy : negB b.data.toList = false) :
 Calls Tryz.prog 109 #[.string a, .string b] w fun e w' => e = .returned (.int .i64 (-1)) ∧ Below w.heap.size w w' := by
 have hda := refDigitsN a
 have hdb := refDigitsN b
 rw [hx] at hda
 rw [hy] at hdb
 have Hda := Lib.hid hda
 have Hdb := Lib.hid hdb
 clear hda hdb hx hy
 go_enter Tryz.func109, Tryz.ntmps109
 go_wp2_with (first | (go_at_call 108; refine (refValid_any _ _ (by assumption)).mono ?_; rintro e w0 ⟨rfl, rfl⟩) | (go_at_call 124; (with_reducible refine (Hda.out _ hva).mono ?_); rintro e w1 ⟨v1, rfl, hr1, hf1, hb1⟩) | (go_at_call 124; (with_reducible refine (Hdb.out _ hvb).mono ?_); rintro e w2 ⟨v2, rfl, hr2, hf2, hb2⟩))
 go_ret
 exact ⟨rfl, hb1.trans (hb2.mono hb1.size)⟩
set_option maxRecDepth 100000 in
theorem refCompare_falsetrue (a b : ByteArray) (w : World) (hva : vld a.data.toList = true) (hvb : vld b.data.toList = true) (hsa : a.size ≤ maxLen) (hsb : b.size ≤ maxLen) (hx : negB a.data.toList = false) (hy : negB b.data.toList = true) :
 Calls Tryz.prog 109 #[.string a, .string b] w fun e w' => e = .returned (.int .i64 (1)) ∧ Below w.heap.size w w' := by
 have hda := refDigitsN a
 have hdb := refDigitsN b
 rw [hx] at hda
 rw [hy] at hdb
 have Hda := Lib.hid hda
 have Hdb := Lib.hid hdb
 clear hda hdb hx hy
 go_enter Tryz.func109, Tryz.ntmps109
 go_wp2_with (first | (go_at_call 108; refine (refValid_any _ _ (by assumption)).mono ?_; rintro e w0 ⟨rfl, rfl⟩) | (go_at_call 124; (with_reducible refine (Hda.out _ hva).mono ?_); rintro e w1 ⟨v1, rfl, hr1, hf1, hb1⟩) | (go_at_call 124; (with_reducible refine (Hdb.out _ hvb).mono ?_); rintro e w2 ⟨v2, rfl, hr2, hf2, hb2⟩))
 go_ret
 exact ⟨rfl, hb1.trans (hb2.mono hb1.size)⟩
set_option maxRecDepth 100000 in
theorem refCompare_truetrue (a b : ByteArray) (w : World) (hva : vld a.data.toList = true) (hvb : vld b.data.toList = true) (hsa : a.size ≤ maxLen) (hsb : b.size ≤ maxLen) (hx : negB a.data.toList = true) (hy : negB b.data.toList = true) :
 Calls Tryz.prog 109 #[.string a, .string b] w fun e w' => e = .returned (.int .i64 (cmpN (nS b).natAbs (nS a).natAbs)) ∧ Below w.heap.size w w' := by
 have hda := refDigitsN a
 have hdb := refDigitsN b
 rw [hx] at hda
 rw [hy] at hdb
 have Hda := Lib.hid hda
 have Hdb := Lib.hid hdb
 clear hda hdb hx hy
 go_enter Tryz.func109, Tryz.ntmps109
 go_wp2_with (first | (go_at_call 108; refine (refValid_any _ _ (by assumption)).mono ?_; rintro e w0 ⟨rfl, rfl⟩) | (go_at_call 124; (with_reducible refine (Hda.out _ hva).mono ?_); rintro e w1 ⟨v1, rfl, hr1, hf1, hb1⟩) | (go_at_call 124; (with_reducible refine (Hdb.out _ hvb).mono ?_); rintro e w2 ⟨v2, rfl, hr2, hf2, hb2⟩) | (go_at_call 137; refine (refOrder_any _ _ _ _ _ hr2 (hr1.below hb2)).mono ?_; rintro e w3 ⟨rfl, hb3⟩))
 go_ret
 exact ⟨rfl, (hb1.trans (hb2.mono hb1.size)).trans (hb3.mono (Nat.le_trans hb1.size hb2.size))⟩
set_option maxRecDepth 100000 in
theorem refCompare_falsefalse (a b : ByteArray) (w : World) (hva : vld a.data.toList = true) (hvb : vld b.data.toList = true) (hsa : a.size ≤ maxLen) (hsb : b.size ≤ maxLen) (hx : negB a.data.toList = false) (hy : negB b.data.toList = false) :
 Calls Tryz.prog 109 #[.string a, .string b] w fun e w' => e = .returned (.int .i64 (cmpN (nS a).natAbs (nS b).natAbs)) ∧ Below w.heap.size w w' := by
 have hda := refDigitsN a
 have hdb := refDigitsN b
 rw [hx] at hda
 rw [hy] at hdb
 have Hda := Lib.hid hda
 have Hdb := Lib.hid hdb
 clear hda hdb hx hy
 go_enter Tryz.func109, Tryz.ntmps109
 go_wp2_with (first | (go_at_call 108; refine (refValid_any _ _ (by assumption)).mono ?_; rintro e w0 ⟨rfl, rfl⟩) | (go_at_call 124; (with_reducible refine (Hda.out _ hva).mono ?_); rintro e w1 ⟨v1, rfl, hr1, hf1, hb1⟩) | (go_at_call 124; (with_reducible refine (Hdb.out _ hvb).mono ?_); rintro e w2 ⟨v2, rfl, hr2, hf2, hb2⟩) | (go_at_call 137; refine (refOrder_any _ _ _ _ _ (hr1.below hb2) hr2).mono ?_; rintro e w3 ⟨rfl, hb3⟩))
 go_ret
 exact ⟨rfl, (hb1.trans (hb2.mono hb1.size)).trans (hb3.mono (Nat.le_trans hb1.size hb2.size))⟩
set_option maxRecDepth 100000 in
theorem refCompare_any (a b : ByteArray) (w : World) (hsa : a.size ≤ maxLen) (hsb : b.size ≤ maxLen) :
 Calls Tryz.prog 109 #[.string a, .string b] w fun e w' => e = .returned (.int .i64 (iCmp a b)) ∧ Below w.heap.size w w' := by
 by_cases ha : vS a = true
 · have hva : vld a.data.toList = true := ha
   by_cases hb : vS b = true
   · have hvb : vld b.data.toList = true := hb
     have e1 : iCmp a b = cmpI (nS a) (nS b) := by simp [iCmp, ha, hb]
     rw [e1]
     have hna := neg_iff ha
     have hnb := neg_iff hb
     have e2 : ∃ r, cmpI (nS a) (nS b) = r ∧ (negB a.data.toList = true → negB b.data.toList = false → r = -1) ∧ (negB a.data.toList = false → negB b.data.toList = true → r = 1) ∧
      (negB a.data.toList = true → negB b.data.toList = true → r = cmpN (nS b).natAbs (nS a).natAbs) ∧ (negB a.data.toList = false → negB b.data.toList = false → r = cmpN (nS a).natAbs (nS b).natAbs) := by
      refine ⟨_, rfl, ?_, ?_, ?_, ?_⟩
      · intro h1 h2
        have : ¬ nS b < 0 := fun h => by rw [hnb.2 h] at h2; cases h2
        exact (cmp_mixed (hna.1 h1) (by omega)).1
      · intro h1 h2
        have : ¬ nS a < 0 := fun h => by rw [hna.2 h] at h1; cases h1
        exact (cmp_mixed (hnb.1 h2) (by omega)).2
      · intro h1 h2
        rw [← cmp_sgn_neg]
        have := hna.1 h1; have := hnb.1 h2
        congr 1 <;> omega
      · intro h1 h2
        have : ¬ nS b < 0 := fun h => by rw [hnb.2 h] at h2; cases h2
        have : ¬ nS a < 0 := fun h => by rw [hna.2 h] at h1; cases h1
        rw [← cmp_sgn_pos]
        congr 1 <;> omega
     obtain ⟨r, hr, g1, g2, g3, g4⟩ := e2
     rw [hr]
     clear e1 ha hb hr hna hnb
     cases hx : negB a.data.toList <;> cases hy : negB b.data.toList
     · rw [g4 hx hy]; exact refCompare_falsefalse a b w hva hvb hsa hsb hx hy
     · rw [g2 hx hy]; exact refCompare_falsetrue a b w hva hvb hsa hsb hx hy
     · rw [g1 hx hy]; exact refCompare_truefalse a b w hva hvb hsa hsb hx hy
     · rw [g3 hx hy]; exact refCompare_truetrue a b w hva hvb hsa hsb hx hy
   · have hvb : vld b.data.toList = false := by simpa [vS] using hb
     have e1 : iCmp a b = 0 := by simp [iCmp, hb]
     rw [e1]
     clear e1 ha hb
     go_enter Tryz.func109, Tryz.ntmps109
     go_wp2_with (go_at_call 108; refine (refValid_any _ _ (by assumption)).mono ?_; rintro e w0 ⟨rfl, rfl⟩)
     go_ret
     exact ⟨rfl, Below.refl _ _⟩
 · have hva : vld a.data.toList = false := by simpa [vS] using ha
   have e1 : iCmp a b = 0 := by simp [iCmp, ha]
   rw [e1]
   clear e1 ha
   go_enter Tryz.func109, Tryz.ntmps109
   go_wp2_with (go_at_call 108; refine (refValid_any _ _ (by assumption)).mono ?_; rintro e w0 ⟨rfl, rfl⟩)
   go_ret
   exact ⟨rfl, Below.refl _ _⟩
theorem refDivided2 (x y : Nat) (hy0 : 0 < y) (va vb : Value) (w : World) (ha : Rd encN w va (digs 10 x)) (hb : Rd encN w vb (digs 10 y)) (hx : (digs 10 x).length ≤ 900) (hy : (digs 10 y).length ≤ 900) :
 Calls Tryz.prog 138 #[va, vb] w fun e w' => ∃ v1 a2 c2, e = .returned (.tuple #[v1, .slice a2 (digs 10 (x % y)).length c2]) ∧ Rd encN w' v1 (digs 10 (x / y)) ∧ Rd encN w' (.slice a2 (digs 10 (x % y)).length c2) (digs 10 (x % y)) ∧ Below w.heap.size w w' := by
 refine (refDivided_any x y hy0 va vb w ha hb hx hy).mono ?_
 rintro e w' ⟨v1, v2, rfl, h1, h2, _, _, h3⟩
 obtain ⟨a, c, rfl, _⟩ := h2.open'
 exact ⟨v1, a, c, rfl, h1, h2, h3⟩
theorem digs_one : digs 10 1 = [1] := digs_digit (by decide) (by decide) (by decide)
theorem zero_text {b : ByteArray} (h : vS b = true) : (b.toList == [48]) = decide (nS b = 0) := by
 rw [ba_toList]
 by_cases h0 : nS b = 0
 · have : b.data.toList = [48] := by
    have := itoa_toI h
    rw [show toI b.data.toList = 0 from h0] at this
    rw [← this]; decide +kernel
   simp [this, h0]
 · have : b.data.toList ≠ [48] := by
    intro e
    apply h0
    unfold nS; rw [e]; decide
   simp [this, h0]
theorem quo_small {x y : Nat} (hx : x < BIG) : x / y < BIG := Nat.lt_of_le_of_lt (Nat.div_le_self x y) hx
theorem quo_succ_small {x y : Nat} (hx : x < BIG) (hr : x % y ≠ 0) : x / y + 1 < BIG := by
 have h1 := zero_lt_BIG
 have h2 := Nat.div_add_mod x y
 have h3 := Nat.div_le_self x y
 have h6 := one_lt_BIG
 generalize BIG = K at *
 by_cases h4 : x / y = 0
 · omega
 · by_cases h5 : y ≤ 1
   · have : x % y = 0 ∨ y = 0 := by
      rcases (show y = 0 ∨ y = 1 by omega) with rfl | rfl
      · exact .inr rfl
      · exact .inl (Nat.mod_one x)
     rcases this with h | rfl
     · exact absurd h hr
     · simp at h4
   · have : 2 * (x / y) ≤ y * (x / y) := Nat.mul_le_mul_right _ (by omega)
     omega
set_option maxRecDepth 100000 in
set_option maxHeartbeats 400000 in
theorem refDiv_falseany (a b : ByteArray) (w : World) (ha : vS a = true) (hb : vS b = true) (hb0 : nS b ≠ 0) (hx : negB a.data.toList = false) :
 Calls Tryz.prog 111 #[.string a, .string b] w fun e w' => e = .returned (.tuple #[.string (ofI (sgn (negB b.data.toList) ((nS a).natAbs / (nS b).natAbs))), .string (ofI ((((nS a).natAbs % (nS b).natAbs : Nat) : Int))), .int .i64 0]) ∧ Below w.heap.size w w' := by
 have hn0 : 0 < (nS b).natAbs := by omega
 have hva : vld a.data.toList = true := ha
 have hvb : vld b.data.toList = true := hb
 have hsa : a.size ≤ maxLen := Nat.le_trans (vS_size ha) (by decide)
 have hsb : b.size ≤ maxLen := Nat.le_trans (vS_size hb) (by decide)
 have hla := digs_len_200 (nS_lt ha)
 have hlb := digs_len_200 (nS_lt hb)
 have hz : (b.toList == [48]) = false := by rw [zero_text hb]; simp [hb0]
 have hlr := digs_length_mono (B := 10) (by decide) (Nat.le_of_lt (Nat.mod_lt (nS a).natAbs hn0))
 have hmn := Nat.mod_lt (nS a).natAbs hn0
 have hlr2 := digs_length_mono (B := 10) (by decide) (show ((nS a).natAbs % (nS b).natAbs) ≤ (nS b).natAbs by omega)
 have hlq := digs_length_mono (B := 10) (by decide) (Nat.div_le_self (nS a).natAbs (nS b).natAbs)
 have hlq2 := digs_len_200 (quo_small (y := (nS b).natAbs) (nS_lt ha))
 have HQ := Lib.hid (chkI_yes (n := sgn (negB b.data.toList) ((nS a).natAbs / (nS b).natAbs)) (by rw [sgn_abs]; exact (quo_small (nS_lt ha))))
 have hda := refDigitsN a
 rw [hx] at hda
 have Hda := Lib.hid hda
 have Hmn := Lib.hid hmn
 clear hda hx ha hb hb0
 go_enter Tryz.func111, Tryz.ntmps111
 go_wp2_with (first
  | (go_at_call 108; refine (refValid_any _ _ (by assumption)).mono ?_; rintro e w0 ⟨rfl, rfl⟩)
  | (go_at_call 124; (with_reducible refine (Hda.out _ hva).mono ?_); rintro e w1 ⟨v1, rfl, hr1, hf1, hb1⟩)
  | (go_at_call 124; (with_reducible refine (refDigitsN b _ hvb).mono ?_); rintro e w2 ⟨v2, rfl, hr2, hf2, hb2⟩)
  | (go_at_call 138; refine (refDivided2 _ _ hn0 _ _ _ (hr1.below hb2) hr2 (by omega) (by omega)).mono ?_; rintro e w3 ⟨v3, a3, c3, rfl, hq3, hr3, hb3⟩)
  | (go_at_call 125; refine (refChecked_any _ _ _ _ hq3 (by omega)).mono ?_; rw [HQ.out]; rintro e w6 ⟨rfl, hb6⟩)
  | (go_at_call 120; refine (refText_any false _ _ _ (hr3.below hb6) (by omega)).mono ?_; rintro e w7 ⟨rfl, hb7⟩))
 go_ret3
 have s1 := hb1.size; have s2 := hb2.size; have s3 := hb3.size; have s6 := hb6.size
 exact ⟨rfl, ((((hb1.trans (hb2.mono hb1.size)).trans (hb3.mono (by omega))).trans (hb6.mono (by omega))).trans (hb7.mono (by omega)))⟩
set_option maxRecDepth 100000 in
set_option maxHeartbeats 400000 in
theorem refDiv_truezero (a b : ByteArray) (w : World) (ha : vS a = true) (hb : vS b = true) (hb0 : nS b ≠ 0) (hx : negB a.data.toList = true) (hr0 : (nS a).natAbs % (nS b).natAbs = 0) :
 Calls Tryz.prog 111 #[.string a, .string b] w fun e w' => e = .returned (.tuple #[.string (ofI (sgn (!negB b.data.toList) ((nS a).natAbs / (nS b).natAbs))), .string (ofI ((((nS a).natAbs % (nS b).natAbs : Nat) : Int))), .int .i64 0]) ∧ Below w.heap.size w w' := by
 have hn0 : 0 < (nS b).natAbs := by omega
 have hva : vld a.data.toList = true := ha
 have hvb : vld b.data.toList = true := hb
 have hsa : a.size ≤ maxLen := Nat.le_trans (vS_size ha) (by decide)
 have hsb : b.size ≤ maxLen := Nat.le_trans (vS_size hb) (by decide)
 have hla := digs_len_200 (nS_lt ha)
 have hlb := digs_len_200 (nS_lt hb)
 have hz : (b.toList == [48]) = false := by rw [zero_text hb]; simp [hb0]
 have hlr := digs_length_mono (B := 10) (by decide) (Nat.le_of_lt (Nat.mod_lt (nS a).natAbs hn0))
 have hmn := Nat.mod_lt (nS a).natAbs hn0
 have hlr2 := digs_length_mono (B := 10) (by decide) (show ((nS a).natAbs % (nS b).natAbs) ≤ (nS b).natAbs by omega)
 have hlq := digs_length_mono (B := 10) (by decide) (Nat.div_le_self (nS a).natAbs (nS b).natAbs)
 have hlq2 := digs_len_200 (quo_small (y := (nS b).natAbs) (nS_lt ha))
 have HQ := Lib.hid (chkI_yes (n := sgn (!negB b.data.toList) ((nS a).natAbs / (nS b).natAbs)) (by rw [sgn_abs]; exact (quo_small (nS_lt ha))))
 have hl0 : (digs 10 ((nS a).natAbs % (nS b).natAbs)).length ≤ 0 := by rw [hr0, digs_zero]; simp
 have hda := refDigitsN a
 rw [hx] at hda
 have Hda := Lib.hid hda
 have Hmn := Lib.hid hmn
 clear hda hx ha hb hb0 hr0
 go_enter Tryz.func111, Tryz.ntmps111
 go_wp2_with (first
  | (go_at_call 108; refine (refValid_any _ _ (by assumption)).mono ?_; rintro e w0 ⟨rfl, rfl⟩)
  | (go_at_call 124; (with_reducible refine (Hda.out _ hva).mono ?_); rintro e w1 ⟨v1, rfl, hr1, hf1, hb1⟩)
  | (go_at_call 124; (with_reducible refine (refDigitsN b _ hvb).mono ?_); rintro e w2 ⟨v2, rfl, hr2, hf2, hb2⟩)
  | (go_at_call 138; refine (refDivided2 _ _ hn0 _ _ _ (hr1.below hb2) hr2 (by omega) (by omega)).mono ?_; rintro e w3 ⟨v3, a3, c3, rfl, hq3, hr3, hb3⟩)
  | (go_at_call 125; refine (refChecked_any _ _ _ _ hq3 (by omega)).mono ?_; rw [HQ.out]; rintro e w6 ⟨rfl, hb6⟩)
  | (go_at_call 120; refine (refText_any false _ _ _ (hr3.below hb6) (by omega)).mono ?_; rintro e w7 ⟨rfl, hb7⟩))
 go_ret3
 have s1 := hb1.size; have s2 := hb2.size; have s3 := hb3.size; have s6 := hb6.size
 exact ⟨rfl, ((((hb1.trans (hb2.mono hb1.size)).trans (hb3.mono (by omega))).trans (hb6.mono (by omega))).trans (hb7.mono (by omega)))⟩
set_option maxRecDepth 100000 in
set_option maxHeartbeats 400000 in
theorem refDiv_truepos (a b : ByteArray) (w : World) (ha : vS a = true) (hb : vS b = true) (hb0 : nS b ≠ 0) (hx : negB a.data.toList = true) (hr0 : (nS a).natAbs % (nS b).natAbs ≠ 0) :
 Calls Tryz.prog 111 #[.string a, .string b] w fun e w' => e = .returned (.tuple #[.string (ofI (sgn (!negB b.data.toList) ((nS a).natAbs / (nS b).natAbs + 1))), .string (ofI ((((nS b).natAbs - (nS a).natAbs % (nS b).natAbs : Nat) : Int))), .int .i64 0]) ∧ Below w.heap.size w w' := by
 have hn0 : 0 < (nS b).natAbs := by omega
 have hva : vld a.data.toList = true := ha
 have hvb : vld b.data.toList = true := hb
 have hsa : a.size ≤ maxLen := Nat.le_trans (vS_size ha) (by decide)
 have hsb : b.size ≤ maxLen := Nat.le_trans (vS_size hb) (by decide)
 have hla := digs_len_200 (nS_lt ha)
 have hlb := digs_len_200 (nS_lt hb)
 have hz : (b.toList == [48]) = false := by rw [zero_text hb]; simp [hb0]
 have hlr := digs_length_mono (B := 10) (by decide) (Nat.le_of_lt (Nat.mod_lt (nS a).natAbs hn0))
 have hmn := Nat.mod_lt (nS a).natAbs hn0
 have hlr2 := digs_length_mono (B := 10) (by decide) (show ((nS b).natAbs - (nS a).natAbs % (nS b).natAbs) ≤ (nS b).natAbs by omega)
 have hlq := digs_length_mono (B := 10) (by decide) (Nat.div_le_self (nS a).natAbs (nS b).natAbs)
 have hlq2 := digs_len_200 (quo_succ_small (nS_lt ha) hr0)
 have HQ := Lib.hid (chkI_yes (n := sgn (!negB b.data.toList) ((nS a).natAbs / (nS b).natAbs + 1)) (by rw [sgn_abs]; exact (quo_succ_small (nS_lt ha) hr0)))
 have hl0 : 0 < (digs 10 ((nS a).natAbs % (nS b).natAbs)).length := List.length_pos_iff.2 (fun e => hr0 ((digs_eq_nil (by decide)).1 e))
 have hda := refDigitsN a
 rw [hx] at hda
 have Hda := Lib.hid hda
 have Hmn := Lib.hid hmn
 clear hda hx ha hb hb0 hr0
 go_enter Tryz.func111, Tryz.ntmps111
 go_wp2_with (first
  | (go_at_call 108; refine (refValid_any _ _ (by assumption)).mono ?_; rintro e w0 ⟨rfl, rfl⟩)
  | (go_at_call 124; (with_reducible refine (Hda.out _ hva).mono ?_); rintro e w1 ⟨v1, rfl, hr1, hf1, hb1⟩)
  | (go_at_call 124; (with_reducible refine (refDigitsN b _ hvb).mono ?_); rintro e w2 ⟨v2, rfl, hr2, hf2, hb2⟩)
  | (go_at_call 138; refine (refDivided2 _ _ hn0 _ _ _ (hr1.below hb2) hr2 (by omega) (by omega)).mono ?_; rintro e w3 ⟨v3, a3, c3, rfl, hq3, hr3, hb3⟩)
  | (go_at_call 139; refine (refPlus_any _ 1 _ _ _ (hq3.below ((Below.refl _ _).alloc (Nat.le_refl _) _)) (by rw [digs_one]; exact (OwnL.lit1 (e := 3) w3 1 rfl).rd) (by omega) (by rw [digs_one]; decide)).mono ?_; rintro e w4 ⟨v4, rfl, hq4, hf4, hb4⟩; have hb34 : Below w3.heap.size w3 w4 := ((Below.refl _ _).alloc (Nat.le_refl _) _).trans (hb4.mono (by simp)))
  | (go_at_call 140; refine (refMinus_any _ _ (by omega) _ _ _ ((hr2.below hb3).below hb34) (hr3.below hb34) (by omega)).mono ?_; rintro e w5 ⟨v5, rfl, hr5, hf5, hb5⟩)
  | (go_at_call 125; refine (refChecked_any _ _ _ _ (hq4.below hb5) (by omega)).mono ?_; rw [HQ.out]; rintro e w6 ⟨rfl, hb6⟩)
  | (go_at_call 120; refine (refText_any false _ _ _ (hr5.below hb6) (by omega)).mono ?_; rintro e w7 ⟨rfl, hb7⟩))
 go_ret3
 have s1 := hb1.size; have s2 := hb2.size; have s3 := hb3.size; have s4 := hb34.size; have s5 := hb5.size; have s6 := hb6.size
 exact ⟨rfl, ((((((hb1.trans (hb2.mono hb1.size)).trans (hb3.mono (by omega))).trans (hb34.mono (by omega))).trans (hb5.mono (by omega))).trans (hb6.mono (by omega))).trans (hb7.mono (by omega)))⟩
abbrev vDiv (r : ByteArray × ByteArray × Int) : Value := .tuple #[.string r.1, .string r.2.1, .int .i64 r.2.2]
theorem iDiv_no {a b : ByteArray} (h : vS a = false ∨ vS b = false ∨ nS b = 0) : iDiv a b = (ByteArray.empty, ByteArray.empty, 30) := by
 unfold iDiv
 rcases h with h | h | h <;> simp [h]
theorem iDiv_yes {a b : ByteArray} (ha : vS a = true) (hb : vS b = true) (h : nS b ≠ 0) : iDiv a b = (ofI (nS a / nS b), ofI (nS a % nS b), 0) := by simp [iDiv, ha, hb, h]
set_option maxRecDepth 100000 in
theorem refDiv_any (a b : ByteArray) (w : World) (hsa : a.size ≤ maxLen) (hsb : b.size ≤ maxLen) :
 Calls Tryz.prog 111 #[.string a, .string b] w fun e w' => e = .returned (vDiv (iDiv a b)) ∧ Below w.heap.size w w' := by
 by_cases ha : vS a = true
 · by_cases hb : vS b = true
   · by_cases h0 : nS b = 0
     · rw [iDiv_no (.inr (.inr h0))]
       have hva : vld a.data.toList = true := ha
       have hvb : vld b.data.toList = true := hb
       have hz : (b.toList == [48]) = true := by rw [zero_text hb]; simp [h0]
       clear ha hb h0
       go_enter Tryz.func111, Tryz.ntmps111
       go_wp2_with (go_at_call 108; refine (refValid_any _ _ (by assumption)).mono ?_; rintro e w0 ⟨rfl, rfl⟩)
       go_ret3
       exact ⟨rfl, Below.refl _ _⟩
     · rw [iDiv_yes ha hb h0]
       have hn0 : 0 < (nS b).natAbs := by omega
       have eb := nS_sgn b
       have ea := nS_sgn a
       cases hx : negB a.data.toList
       · rw [hx] at ea
         have h := div_sizes_pos (nS a).natAbs (negB b.data.toList) (nS b).natAbs
         rw [← eb, show ((nS a).natAbs : Int) = nS a by rw [ea]; simp [sgn]] at h
         rw [h.1, h.2]
         exact refDiv_falseany a b w ha hb h0 hx
       · rw [hx] at ea
         have h := div_sizes_neg (x := (nS a).natAbs) hn0 (negB b.data.toList)
         rw [← eb, show -((nS a).natAbs : Int) = nS a by rw [ea]; simp [sgn]] at h
         rw [h.1, h.2]
         by_cases hr : (nS a).natAbs % (nS b).natAbs = 0
         · have := refDiv_truezero a b w ha hb h0 hx hr
           rw [hr] at this
           rw [if_pos hr, if_pos hr]
           exact this
         · rw [if_neg hr, if_neg hr]
           exact refDiv_truepos a b w ha hb h0 hx hr
   · rw [iDiv_no (.inr (.inl (by simpa using hb)))]
     have hva : vld a.data.toList = true := ha
     have hvb : vld b.data.toList = false := by simpa [vS] using hb
     clear ha hb
     go_enter Tryz.func111, Tryz.ntmps111
     go_wp2_with (go_at_call 108; refine (refValid_any _ _ (by assumption)).mono ?_; rintro e w0 ⟨rfl, rfl⟩)
     go_ret3
     exact ⟨rfl, Below.refl _ _⟩
 · rw [iDiv_no (.inl (by simpa using ha))]
   have hva : vld a.data.toList = false := by simpa [vS] using ha
   clear ha
   go_enter Tryz.func111, Tryz.ntmps111
   go_wp2_with (go_at_call 108; refine (refValid_any _ _ (by assumption)).mono ?_; rintro e w0 ⟨rfl, rfl⟩)
   go_ret3
   exact ⟨rfl, Below.refl _ _⟩
def GcdRel (g : Nat) (w : World) (kv lv : Value) (wr : World) : Prop :=
 ∃ (x y : Nat) (a : Option Addr) (c : Nat), lv = .slice a (digs 10 y).length c ∧ Rd encN wr kv (digs 10 x) ∧ Rd encN wr lv (digs 10 y) ∧ Below w.heap.size w wr ∧ Nat.gcd x y = g ∧ (digs 10 x).length ≤ 200 ∧ (digs 10 y).length ≤ 200
theorem gcd_lt_BIG {x y : Nat} (hx : x < BIG) (hy : y < BIG) : Nat.gcd x y < BIG := by
 by_cases h : x = 0
 · subst h; simpa using hy
 · exact Nat.lt_of_le_of_lt (Nat.gcd_le_left y (by omega)) hx
theorem iGcd_yes {a b : ByteArray} (ha : vS a = true) (hb : vS b = true) : iGcd a b = (ofI (sgn false (Nat.gcd (nS a).natAbs (nS b).natAbs)), 0) := by simp [iGcd, ha, hb, sgn, Int.gcd]
theorem iGcd_no {a b : ByteArray} (h : vS a = false ∨ vS b = false) : iGcd a b = (ByteArray.empty, 30) := by
 unfold iGcd
 rcases h with h | h <;> simp [h]
set_option maxRecDepth 100000 in
theorem refGcd_any (a b : ByteArray) (w : World) (hsa : a.size ≤ maxLen) (hsb : b.size ≤ maxLen) :
 Calls Tryz.prog 110 #[.string a, .string b] w fun e w' => e = .returned (vSE (iGcd a b)) ∧ Below w.heap.size w w' := by
 by_cases ha : vS a = true
 · by_cases hb : vS b = true
   · rw [iGcd_yes ha hb]
     have hva : vld a.data.toList = true := ha
     have hvb : vld b.data.toList = true := hb
     have hla := digs_len_200 (nS_lt ha)
     have hlb := digs_len_200 (nS_lt hb)
     have HG := Lib.hid (gcd_lt_BIG (nS_lt ha) (nS_lt hb))
     clear ha hb
     obtain ⟨g, hg⟩ : ∃ g, Nat.gcd (nS a).natAbs (nS b).natAbs = g := ⟨_, rfl⟩
     rw [hg] at HG ⊢
     have Hg := Lib.hid hg; clear hg
     go_enter Tryz.func110, Tryz.ntmps110
     go_wp2_with (first
      | (go_at_call 108; refine (refValid_any _ _ (by assumption)).mono ?_; rintro e w0 ⟨rfl, rfl⟩)
      | (go_at_call 124; (with_reducible refine (refDigitsN a _ hva).mono ?_); rintro e w1 ⟨v1, rfl, hr1, hf1, hb1⟩)
      | (go_at_call 124; (with_reducible refine (refDigitsN b _ hvb).mono ?_); rintro e w2 ⟨v2, rfl, hr2, hf2, hb2⟩))
     go_loopw [7, 9] (fun kv lv wr => GcdRel g w kv lv wr) (fun _ lv wr => restOf wr lv)
     case atStart =>
      obtain ⟨a2, c2, e2, _⟩ := hr2.open'
      exact ⟨_, _, a2, c2, e2, hr1.below hb2, hr2, hb1.trans (hb2.mono hb1.size), Hg.out, hla, hlb⟩
     case round =>
      obtain ⟨x, y, ad, cp, rfl, hrx, hry, hB, hgg, hlx, hly⟩ := hrel
      have Hgg := Lib.hid hgg; clear hgg
      clear hr1 hr2 hf1 hf2 hb1 hb2
      by_cases hy0 : y = 0
      · subst hy0
        have hl0 : (digs 10 0).length ≤ 0 := by rw [digs_zero]; simp
        have e1 : g = x := by rw [← Hgg.out]; simp
        subst e1
        have HQ := Lib.hid (chkI_yes (n := sgn false g) (by rw [sgn_abs]; exact HG.out))
        go_wp2_with (go_at_call 125; refine (refChecked_any false _ _ _ hrx (by omega)).mono ?_; rw [HQ.out]; rintro e w6 ⟨rfl, hb6⟩)
        go_ret2
        exact ⟨rfl, hB.trans (hb6.mono hB.size)⟩
      · have hl0 : 0 < (digs 10 y).length := List.length_pos_iff.2 (fun e => hy0 ((digs_eq_nil (by decide)).1 e))
        go_wp2_with (go_at_call 138; refine (refDivided2 x y (by omega) _ _ _ hrx hry (by omega) (by omega)).mono ?_; rintro e w3 ⟨v3, a3, c3, rfl, hq3, hr3, hb3⟩)
        go_roundw
        case rel => exact ⟨y, x % y, _, _, rfl, hry.below hb3, hr3, hB.trans (hb3.mono hB.size), by rw [← Hgg.out, Nat.gcd_comm x y, Nat.gcd_rec y x, Nat.gcd_comm], hly, Nat.le_trans (digs_length_mono (by decide) (Nat.le_of_lt (Nat.mod_lt x (by omega)))) hly⟩
        case measure => rw [restOf_eq hr3, restOf_eq hry]; exact Nat.mod_lt x (by omega)
   · rw [iGcd_no (.inr (by simpa using hb))]
     have hva : vld a.data.toList = true := ha
     have hvb : vld b.data.toList = false := by simpa [vS] using hb
     clear ha hb
     go_enter Tryz.func110, Tryz.ntmps110
     go_wp2_with (go_at_call 108; refine (refValid_any _ _ (by assumption)).mono ?_; rintro e w0 ⟨rfl, rfl⟩)
     go_ret2
     exact ⟨rfl, Below.refl _ _⟩
 · rw [iGcd_no (.inl (by simpa using ha))]
   have hva : vld a.data.toList = false := by simpa [vS] using ha
   clear ha
   go_enter Tryz.func110, Tryz.ntmps110
   go_wp2_with (go_at_call 108; refine (refValid_any _ _ (by assumption)).mono ?_; rintro e w0 ⟨rfl, rfl⟩)
   go_ret2
   exact ⟨rfl, Below.refl _ _⟩
def FromRel (n : Nat) (neg : Bool) (w : World) (out mv : Value) (wr : World) : Prop :=
 ∃ (m : Nat) (l : List Nat), mv = .int .i64 (sgn neg m) ∧ OwnL encN 3 wr w.heap.size out l ∧ Below w.heap.size w wr ∧ l ++ digs 10 m = digs 10 n ∧ m ≤ n
theorem fromRel_step {n m : Nat} {l : List Nat} (h : l ++ digs 10 m = digs 10 n) (h0 : m ≠ 0) : (l ++ [m % 10]) ++ digs 10 (m / 10) = digs 10 n := by
 rw [List.append_assoc, ← h, digs_pos (n := m) (by decide) h0]; rfl
theorem fromRel_len {n m : Nat} {l : List Nat} (h : l ++ digs 10 m = digs 10 n) (hn : (digs 10 n).length ≤ 20) : l.length ≤ 20 := by
 have := congrArg List.length h
 rw [List.length_append] at this; omega
set_option maxRecDepth 100000 in
theorem refFromInt_pos (n : Nat) (w : World) (h2 : n ≤ 9223372036854775807) :
 Calls Tryz.prog 90 #[.int .i64 (n : Int)] w fun e w' => e = .returned (.string (ofI n)) ∧ Below w.heap.size w w' := by
 have hln : (digs 10 n).length ≤ 20 := digs_len_of_lt (by omega)
 have hB0 := zero_lt_BIG
 go_enter Tryz.func90, Tryz.ntmps90
 go_wp2
 go_loopw [3, 4] (fun out mv wr => FromRel n false w out mv wr) (fun _ mv _ => (intOf mv).natAbs)
 case atStart => exact ⟨n, [], rfl, OwnL.nil _ _, Below.refl _ _, rfl, Nat.le_refl _⟩
 case round =>
  obtain ⟨m, l, rfl, hown, hB, hl, hmn⟩ := hrel
  have Hl := Lib.hid hl; clear hl
  have hll := fromRel_len Hl.out hln
  have hbs := hB.size
  rw [show sgn false m = (m : Int) from rfl]
  by_cases h0 : m = 0
  · subst h0
    have e1 := Hl.out
    rw [digs_zero, List.append_nil] at e1
    subst e1
    go_wp2_with (go_at_call 120; refine (refText_any false n _ _ hown.rd (by omega)).mono ?_; rintro e w6 ⟨rfl, hb6⟩)
    go_ret
    exact ⟨rfl, hB.trans (hb6.mono hB.size)⟩
  · have c1 : ((m : Int) != 0) = true := by rw [bne_iff_ne]; omega
    go_wp2_with (at_builtin; refine appN rfl _ _ rfl rfl (hown.alloc _) wr.heap.size 1 _ rfl (cell_new1 _ _ _) (m % 10) (int_eq (by omega)) (by omega) (by simp; omega) ?_; intro v' w1 hown1 hB1)
    go_roundw
    case rel => exact ⟨m / 10, _, int_eq (by simp only [sgn]; simp), hown1, (hB.alloc hB.size _).trans hB1, fromRel_step Hl.out h0, by omega⟩
    case measure => simp [intOf]; omega
set_option maxRecDepth 100000 in
theorem refFromInt_neg (n : Nat) (w : World) (h1 : 0 < n) (h2 : n ≤ 9223372036854775808) :
 Calls Tryz.prog 90 #[.int .i64 (-(n : Int))] w fun e w' => e = .returned (.string (ofI (-(n : Int)))) ∧ Below w.heap.size w w' := by
 have hln : (digs 10 n).length ≤ 20 := digs_len_of_lt (by omega)
 go_enter Tryz.func90, Tryz.ntmps90
 go_wp2
 go_loopw [3, 4] (fun out mv wr => FromRel n true w out mv wr) (fun _ mv _ => (intOf mv).natAbs)
 case atStart => exact ⟨n, [], rfl, OwnL.nil _ _, Below.refl _ _, rfl, Nat.le_refl _⟩
 case round =>
  obtain ⟨m, l, rfl, hown, hB, hl, hmn⟩ := hrel
  have Hl := Lib.hid hl; clear hl
  have hll := fromRel_len Hl.out hln
  have hbs := hB.size
  rw [show sgn true m = -(m : Int) from rfl]
  by_cases h0 : m = 0
  · subst h0
    have e1 := Hl.out
    rw [digs_zero, List.append_nil] at e1
    subst e1
    go_wp2_with (go_at_call 120; refine (refText_any true n _ _ hown.rd (by omega)).mono ?_; rintro e w6 ⟨rfl, hb6⟩)
    go_ret
    exact ⟨rfl, hB.trans (hb6.mono hB.size)⟩
  · have c1 : (-(m : Int) != 0) = true := by rw [bne_iff_ne]; omega
    obtain ⟨md, hmd⟩ : ∃ md, m % 10 = md := ⟨_, rfl⟩
    obtain ⟨mq, hmq⟩ : ∃ mq, m / 10 = mq := ⟨_, rfl⟩
    have t1 : (-(m : Int)).tmod 10 = -(md : Int) := by rw [Int.neg_tmod, ← hmd]; congr 1
    have t2 : (-(m : Int)).tdiv 10 = -(mq : Int) := by rw [Int.neg_tdiv, ← hmq]; congr 1
    have hmd9 : md ≤ 9 := by omega
    have hmq9 : mq ≤ m := by omega
    have hmq0 : mq < m := by omega
    have Hmd := Lib.hid hmd
    have Hmq := Lib.hid hmq
    clear hmd hmq
    have hm0 : 0 < m := by omega
    by_cases hz : md = 0
    · subst hz
      go_wp2_with (at_builtin; refine appN rfl _ _ rfl rfl (hown.alloc _) wr.heap.size 1 _ rfl (cell_new1 _ _ _) (m % 10) (int_eq (by rw [Hmd.out]; rfl)) (by omega) (by simp; omega) ?_; intro v' w1 hown1 hB1)
      go_roundw
      case rel => exact ⟨m / 10, _, int_eq (by rw [Hmq.out]; rfl), hown1, (hB.alloc hB.size _).trans hB1, fromRel_step Hl.out h0, by omega⟩
      case measure => simp [intOf]; omega
    · have c2 : -(md : Int) < 0 := by omega
      go_wp2_with (at_builtin; refine appN rfl _ _ rfl rfl (hown.alloc _) wr.heap.size 1 _ rfl (cell_new1 _ _ _) (m % 10) (int_eq (by rw [Hmd.out])) (by omega) (by simp; omega) ?_; intro v' w1 hown1 hB1)
      go_roundw
      case rel => exact ⟨m / 10, _, int_eq (by rw [Hmq.out]; rfl), hown1, (hB.alloc hB.size _).trans hB1, fromRel_step Hl.out h0, by omega⟩
      case measure => simp [intOf]; omega
theorem refFromInt_any (n : Int) (w : World) (h1 : -9223372036854775808 ≤ n) (h2 : n ≤ 9223372036854775807) :
 Calls Tryz.prog 90 #[.int .i64 n] w fun e w' => e = .returned (.string (ofI n)) ∧ Below w.heap.size w w' := by
 by_cases h : n < 0
 · have := refFromInt_neg n.natAbs w (by omega) (by omega)
   rwa [show -(n.natAbs : Int) = n by omega] at this
 · have := refFromInt_pos n.natAbs w (by omega)
   rwa [show (n.natAbs : Int) = n by omega] at this
theorem refValid_is {s : ByteArray} {b : Bool} (h : vS s = b) (w : World) (hs : s.size ≤ maxLen) : Calls Tryz.prog 108 #[.string s] w fun e w' => e = .returned (.bool b) ∧ w = w' := by
 have := refValid_any s w hs; subst h; exact this
set_option maxRecDepth 100000 in
set_option maxHeartbeats 1000000 in
theorem rv_no1 (n d : ByteArray) (hn : vS n = false) (b : Bool) (hd : vS d = b) (w : World) (hs1 : n.size ≤ maxLen) (hs2 : d.size ≤ maxLen) :
 Calls Tryz.prog 69 #[.agg #[.string n, .string d]] w fun e w' => e = .returned (.bool false) ∧ Below w.heap.size w w' := by
 have H1 := Lib.hid (fun w => refValid_is hn w hs1)
 have H2 := Lib.hid (fun w => refValid_is hd w hs2)
 clear hn hd hs1 hs2
 have q0 : Blk (w.alloc (.cells #[.string n, .string d] 26)) (w.heap.size) #[.string n, .string d] 26 := Blk.new w _ _
 have qL : Below w.heap.size w (w.alloc (.cells #[.string n, .string d] 26)) := (Below.refl _ w).alloc (Nat.le_refl _) _
 have A0 := Lib.hid q0
 have L0 := Lib.hid qL
 clear qL q0
 go_enter Tryz.func69, Tryz.ntmps69
 go_wp2_with fail
 try simp only [Nat.add_assoc, Nat.reduceAdd]
 generalize (w.alloc (.cells #[.string n, .string d] 26)) = w0 at *
 obtain ⟨a00, a01, a0f, a0g, a0l⟩ := blk2 A0.out
 refine (H1.out _).mono ?_
 rintro e wx ⟨rfl, rfl⟩
 go_wp2_with fail
 refine (H2.out _).mono ?_
 rintro e wx ⟨rfl, rfl⟩
 cases b
 all_goals go_wp2
 all_goals go_ret
 all_goals exact ⟨rfl, L0.out⟩
set_option maxRecDepth 100000 in
set_option maxHeartbeats 1000000 in
theorem rv_no2 (n d : ByteArray) (hn : vS n = true) (hd : vS d = false) (w : World) (hs1 : n.size ≤ maxLen) (hs2 : d.size ≤ maxLen) :
 Calls Tryz.prog 69 #[.agg #[.string n, .string d]] w fun e w' => e = .returned (.bool false) ∧ Below w.heap.size w w' := by
 have H1 := Lib.hid (fun w => refValid_is hn w hs1)
 have H2 := Lib.hid (fun w => refValid_is hd w hs2)
 clear hn hd hs1 hs2
 have q0 : Blk (w.alloc (.cells #[.string n, .string d] 26)) (w.heap.size) #[.string n, .string d] 26 := Blk.new w _ _
 have qL : Below w.heap.size w (w.alloc (.cells #[.string n, .string d] 26)) := (Below.refl _ w).alloc (Nat.le_refl _) _
 have A0 := Lib.hid q0
 have L0 := Lib.hid qL
 clear qL q0
 go_enter Tryz.func69, Tryz.ntmps69
 go_wp2_with fail
 try simp only [Nat.add_assoc, Nat.reduceAdd]
 generalize (w.alloc (.cells #[.string n, .string d] 26)) = w0 at *
 obtain ⟨a00, a01, a0f, a0g, a0l⟩ := blk2 A0.out
 refine (H1.out _).mono ?_
 rintro e wx ⟨rfl, rfl⟩
 go_wp2_with fail
 refine (H2.out _).mono ?_
 rintro e wx ⟨rfl, rfl⟩
 go_wp2
 go_ret
 exact ⟨rfl, L0.out⟩
set_option maxRecDepth 100000 in
set_option maxHeartbeats 1000000 in
theorem rv_no3 (n d : ByteArray) (hn : vS n = true) (hd : vS d = true) (h0 : ¬ 0 < nS d) (w : World) (hs1 : n.size ≤ maxLen) (hs2 : d.size ≤ maxLen) :
 Calls Tryz.prog 69 #[.agg #[.string n, .string d]] w fun e w' => e = .returned (.bool false) ∧ Below w.heap.size w w' := by
 have H1 := Lib.hid (fun w => refValid_is hn w hs1)
 have H2 := Lib.hid (fun w => refValid_is hd w hs2)
 have H3 := Lib.hid (fun w => refCompare_any d ⟨#[48]⟩ w hs2 (by decide))
 rw [iCmp_zero hd] at H3
 obtain ⟨cv, hcv⟩ : ∃ c, cmpI (nS d) 0 = c := ⟨_, rfl⟩
 rw [hcv] at H3
 have hc : cv ≤ 0 := by { rw [← hcv]; unfold cmpI; split <;> omega }
 clear hn hd hs1 hs2 h0 hcv
 have q0 : Blk (w.alloc (.cells #[.string n, .string d] 26)) (w.heap.size) #[.string n, .string d] 26 := Blk.new w _ _
 have qL : Below w.heap.size w (w.alloc (.cells #[.string n, .string d] 26)) := (Below.refl _ w).alloc (Nat.le_refl _) _
 have A0 := Lib.hid q0
 have L0 := Lib.hid qL
 clear qL q0
 go_enter Tryz.func69, Tryz.ntmps69
 go_wp2_with fail
 try simp only [Nat.add_assoc, Nat.reduceAdd]
 generalize (w.alloc (.cells #[.string n, .string d] 26)) = w0 at *
 obtain ⟨a00, a01, a0f, a0g, a0l⟩ := blk2 A0.out
 refine (H1.out _).mono ?_
 rintro e wx ⟨rfl, rfl⟩
 go_wp2_with fail
 refine (H2.out _).mono ?_
 rintro e wx ⟨rfl, rfl⟩
 go_wp2_with fail
 refine (H3.out _).mono ?_
 rintro e w1 ⟨rfl, hb1⟩
 have A1 := Lib.hid (Blk.below A0.out hb1 A0.out.lt)
 have L1 := Lib.hid (L0.out.trans (hb1.mono L0.out.size))
 clear hb1
 obtain ⟨a10, a11, a1f, a1g, a1l⟩ := blk2 A1.out
 go_wp2
 go_ret
 exact ⟨rfl, L1.out⟩
set_option maxRecDepth 100000 in
set_option maxHeartbeats 1000000 in
theorem rv_yes (n d : ByteArray) (hn : vS n = true) (hd : vS d = true) (h0 : 0 < nS d) (w : World) (hs1 : n.size ≤ maxLen) (hs2 : d.size ≤ maxLen) :
 Calls Tryz.prog 69 #[.agg #[.string n, .string d]] w fun e w' => e = .returned (.bool (decide (Int.gcd (nS n) (nS d) = 1))) ∧ Below w.heap.size w w' := by
 have H1 := Lib.hid (fun w => refValid_is hn w hs1)
 have H2 := Lib.hid (fun w => refValid_is hd w hs2)
 have H3 := Lib.hid (fun w => refCompare_any d ⟨#[48]⟩ w hs2 (by decide))
 rw [iCmp_zero hd] at H3
 obtain ⟨cv, hcv⟩ : ∃ c, cmpI (nS d) 0 = c := ⟨_, rfl⟩
 rw [hcv] at H3
 have hc : ¬ cv ≤ 0 := by { rw [← hcv]; unfold cmpI; split <;> first | omega | (split <;> omega) }
 have H4 := Lib.hid (fun w => refGcd_any n d w hs1 hs2)
 have hgd : iGcd n d = (ofI (Int.gcd (nS n) (nS d)), 0) := by unfold iGcd; rw [if_pos (by simp [hn, hd])]
 rw [hgd] at H4
 have hsm : vS (ofI (Int.gcd (nS n) (nS d))) = true := vS_ofI (by rw [Int.natAbs_natCast]; exact gcd_lt (nS_lt hn) (nS_lt hd))
 have heq := eq49 hsm
 rw [nS_ofI] at heq
 have hr : decide (Int.gcd (nS n) (nS d) = 1) = ((ofI (Int.gcd (nS n) (nS d) : Int)).toList == [49]) := by rw [heq, decide_eq_decide]; omega
 rw [hr]
 generalize ofI (Int.gcd (nS n) (nS d) : Int) = g at *
 obtain ⟨bv, hbv⟩ : ∃ b, (g.toList == [49]) = b := ⟨_, rfl⟩
 rw [hbv]
 clear hn hd hs1 hs2 h0 hcv hgd hsm heq hr
 have q0 : Blk (w.alloc (.cells #[.string n, .string d] 26)) (w.heap.size) #[.string n, .string d] 26 := Blk.new w _ _
 have qL : Below w.heap.size w (w.alloc (.cells #[.string n, .string d] 26)) := (Below.refl _ w).alloc (Nat.le_refl _) _
 have A0 := Lib.hid q0
 have L0 := Lib.hid qL
 clear qL q0
 go_enter Tryz.func69, Tryz.ntmps69
 go_wp2_with fail
 try simp only [Nat.add_assoc, Nat.reduceAdd]
 generalize (w.alloc (.cells #[.string n, .string d] 26)) = w0 at *
 obtain ⟨a00, a01, a0f, a0g, a0l⟩ := blk2 A0.out
 refine (H1.out _).mono ?_
 rintro e wx ⟨rfl, rfl⟩
 go_wp2_with fail
 refine (H2.out _).mono ?_
 rintro e wx ⟨rfl, rfl⟩
 go_wp2_with fail
 refine (H3.out _).mono ?_
 rintro e w1 ⟨rfl, hb1⟩
 have A1 := Lib.hid (Blk.below A0.out hb1 A0.out.lt)
 have L1 := Lib.hid (L0.out.trans (hb1.mono L0.out.size))
 clear hb1
 obtain ⟨a10, a11, a1f, a1g, a1l⟩ := blk2 A1.out
 go_wp2_with fail
 refine (H4.out _).mono ?_
 rintro e w2 ⟨rfl, hb2⟩
 have A2 := Lib.hid (Blk.below A1.out hb2 A1.out.lt)
 have L2 := Lib.hid (L1.out.trans (hb2.mono L1.out.size))
 clear hb2
 obtain ⟨a20, a21, a2f, a2g, a2l⟩ := blk2 A2.out
 go_wp2
 go_ret
 exact ⟨rfl, L2.out⟩
theorem ref4Valid_any (a : RS) (w : World) (ha : Sz a) : Calls Tryz.prog 69 #[vR a] w fun e w' => e = .returned (.bool (rV a)) ∧ Below w.heap.size w w' := by
 obtain ⟨n, d⟩ := a
 show Calls _ _ #[.agg #[.string n, .string d]] _ _
 cases hn : vS n with
 | false =>
   have hr : rV (n, d) = false := by simp [rV, hn]
   rw [hr]; exact rv_no1 n d hn _ rfl w ha.1 ha.2
 | true =>
   cases hd : vS d with
   | false =>
     have hr : rV (n, d) = false := by simp [rV, hd]
     rw [hr]; exact rv_no2 n d hn hd w ha.1 ha.2
   | true =>
     by_cases h0 : 0 < nS d
     · have hr : rV (n, d) = decide (Int.gcd (nS n) (nS d) = 1) := by simp [rV, hn, hd, h0]
       rw [hr]; exact rv_yes n d hn hd h0 w ha.1 ha.2
     · have hr : rV (n, d) = false := by simp [rV, h0]
       rw [hr]; exact rv_no3 n d hn hd h0 w ha.1 ha.2
set_option maxRecDepth 100000 in
set_option maxHeartbeats 1000000 in
theorem rm_no1 (n d : ByteArray) (hn : vS n = false) (b : Bool) (hd : vS d = b) (w : World) (hs1 : n.size ≤ maxLen) (hs2 : d.size ≤ maxLen) :
 Calls Tryz.prog 89 #[.string n, .string d] w (RatPost (noR, 40) w) := by
 have H1 := Lib.hid (fun w => refValid_is hn w hs1)
 have H2 := Lib.hid (fun w => refValid_is hd w hs2)
 clear hn hd hs1 hs2
 have q0 : Blk (w.alloc (.cells #[.string ⟨#[]⟩, .string ⟨#[]⟩] 26)) (w.heap.size) #[.string ⟨#[]⟩, .string ⟨#[]⟩] 26 := Blk.new w _ _
 have qL : Below w.heap.size w (w.alloc (.cells #[.string ⟨#[]⟩, .string ⟨#[]⟩] 26)) := (Below.refl _ w).alloc (Nat.le_refl _) _
 have R0 := Lib.hid q0
 have L0 := Lib.hid qL
 clear qL q0
 go_enter Tryz.func89, Tryz.ntmps89
 go_wp2_with fail
 try simp only [Nat.add_assoc, Nat.reduceAdd]
 generalize (w.alloc (.cells #[.string ⟨#[]⟩, .string ⟨#[]⟩] 26)) = w0 at *
 obtain ⟨r00, r01, r0f, r0g, r0l⟩ := blk2 R0.out
 refine (H1.out _).mono ?_
 rintro e wx ⟨rfl, rfl⟩
 go_wp2_with fail
 refine (H2.out _).mono ?_
 rintro e wx ⟨rfl, rfl⟩
 cases b
 · skip
   go_wp2
   refine bodyPost_ret (v := vRE (noR, 40)) (by simp [results, Tryz.results89, go_sem, noR, r00, r01, r0f, r0g, r0l]; rfl) rfl ⟨rfl, ?_⟩
   exact (L0.out.setCell (by simp) _).setCell (by simp) _
 · skip
   go_wp2
   refine bodyPost_ret (v := vRE (noR, 40)) (by simp [results, Tryz.results89, go_sem, noR, r00, r01, r0f, r0g, r0l]; rfl) rfl ⟨rfl, ?_⟩
   exact (L0.out.setCell (by simp) _).setCell (by simp) _
set_option maxRecDepth 100000 in
set_option maxHeartbeats 1000000 in
theorem rm_no2 (n d : ByteArray) (hn : vS n = true) (hd : vS d = false) (w : World) (hs1 : n.size ≤ maxLen) (hs2 : d.size ≤ maxLen) :
 Calls Tryz.prog 89 #[.string n, .string d] w (RatPost (noR, 40) w) := by
 have H1 := Lib.hid (fun w => refValid_is hn w hs1)
 have H2 := Lib.hid (fun w => refValid_is hd w hs2)
 clear hn hd hs1 hs2
 have q0 : Blk (w.alloc (.cells #[.string ⟨#[]⟩, .string ⟨#[]⟩] 26)) (w.heap.size) #[.string ⟨#[]⟩, .string ⟨#[]⟩] 26 := Blk.new w _ _
 have qL : Below w.heap.size w (w.alloc (.cells #[.string ⟨#[]⟩, .string ⟨#[]⟩] 26)) := (Below.refl _ w).alloc (Nat.le_refl _) _
 have R0 := Lib.hid q0
 have L0 := Lib.hid qL
 clear qL q0
 go_enter Tryz.func89, Tryz.ntmps89
 go_wp2_with fail
 try simp only [Nat.add_assoc, Nat.reduceAdd]
 generalize (w.alloc (.cells #[.string ⟨#[]⟩, .string ⟨#[]⟩] 26)) = w0 at *
 obtain ⟨r00, r01, r0f, r0g, r0l⟩ := blk2 R0.out
 refine (H1.out _).mono ?_
 rintro e wx ⟨rfl, rfl⟩
 go_wp2_with fail
 refine (H2.out _).mono ?_
 rintro e wx ⟨rfl, rfl⟩
 go_wp2
 refine bodyPost_ret (v := vRE (noR, 40)) (by simp [results, Tryz.results89, go_sem, noR, r00, r01, r0f, r0g, r0l]; rfl) rfl ⟨rfl, ?_⟩
 exact (L0.out.setCell (by simp) _).setCell (by simp) _
set_option maxRecDepth 100000 in
set_option maxHeartbeats 1000000 in
theorem rm_zero (n d : ByteArray) (hn : vS n = true) (hd : vS d = true) (h0 : nS d = 0) (w : World) (hs1 : n.size ≤ maxLen) (hs2 : d.size ≤ maxLen) :
 Calls Tryz.prog 89 #[.string n, .string d] w (RatPost (noR, 40) w) := by
 have H1 := Lib.hid (fun w => refValid_is hn w hs1)
 have H2 := Lib.hid (fun w => refValid_is hd w hs2)
 have c4 : (d.toList == [48]) = true := by rw [eq48 hd]; simp [h0]
 clear hn hd hs1 hs2 h0
 have q0 : Blk (w.alloc (.cells #[.string ⟨#[]⟩, .string ⟨#[]⟩] 26)) (w.heap.size) #[.string ⟨#[]⟩, .string ⟨#[]⟩] 26 := Blk.new w _ _
 have qL : Below w.heap.size w (w.alloc (.cells #[.string ⟨#[]⟩, .string ⟨#[]⟩] 26)) := (Below.refl _ w).alloc (Nat.le_refl _) _
 have R0 := Lib.hid q0
 have L0 := Lib.hid qL
 clear qL q0
 go_enter Tryz.func89, Tryz.ntmps89
 go_wp2_with fail
 try simp only [Nat.add_assoc, Nat.reduceAdd]
 generalize (w.alloc (.cells #[.string ⟨#[]⟩, .string ⟨#[]⟩] 26)) = w0 at *
 obtain ⟨r00, r01, r0f, r0g, r0l⟩ := blk2 R0.out
 refine (H1.out _).mono ?_
 rintro e wx ⟨rfl, rfl⟩
 go_wp2_with fail
 refine (H2.out _).mono ?_
 rintro e wx ⟨rfl, rfl⟩
 go_wp2
 refine bodyPost_ret (v := vRE (noR, 40)) (by simp [results, Tryz.results89, go_sem, noR, r00, r01, r0f, r0g, r0l]; rfl) rfl ⟨rfl, ?_⟩
 exact (L0.out.setCell (by simp) _).setCell (by simp) _
set_option maxRecDepth 100000 in
set_option maxHeartbeats 1000000 in
theorem rm_pos (n d : ByteArray) (hn : vS n = true) (hd : vS d = true) (h0 : 0 < nS d) (w : World) (hs1 : n.size ≤ maxLen) (hs2 : d.size ≤ maxLen) :
 Calls Tryz.prog 89 #[.string n, .string d] w (RatPost (redF false n d) w) := by
 have H1 := Lib.hid (fun w => refValid_is hn w hs1)
 have H2 := Lib.hid (fun w => refValid_is hd w hs2)
 have H3 := Lib.hid (fun w => refCompare_any d ⟨#[48]⟩ w hs2 (by decide))
 rw [iCmp_zero hd] at H3
 obtain ⟨cv, hcv⟩ : ∃ c, cmpI (nS d) 0 = c := ⟨_, rfl⟩
 rw [hcv] at H3
 rw [red_pos hn hd h0]
 have c4 : (d.toList == [48]) = false := by rw [eq48 hd]; simp; omega
 have hc : ¬ cv < 0 := by { rw [← hcv]; unfold cmpI; split <;> first | omega | (split <;> omega) }
 have hnB := nS_lt hn
 have hdB := nS_lt hd
 have hn' : vS (ofI (nS n)) = true := by rw [ofI_nS hn]; exact hn
 have hd' : vS (ofI (nS d)) = true := by rw [ofI_nS hd]; exact hd
 have hsg : vS (ofI (Int.gcd (nS n) (nS d) : Int)) = true := gcd_vS hnB hdB
 have hg0 : nS (ofI (Int.gcd (nS n) (nS d) : Int)) ≠ 0 := by
  rw [nS_ofI]
  have : 0 < Int.gcd (nS n) (nS d) := Int.gcd_pos_of_ne_zero_right _ (by omega)
  omega
 have S3 : Hid (∀ W, Calls Tryz.prog 110 #[.string (ofI (nS n)), .string (ofI (nS d))] W fun e w' => e = .returned (vSE (ofI (Int.gcd (nS n) (nS d)), 0)) ∧ Below W.heap.size W w') := Lib.hid fun W => by
  have := refGcd_any (ofI (nS n)) (ofI (nS d)) W (size_vS hn') (size_vS hd')
  have e : iGcd (ofI (nS n)) (ofI (nS d)) = (ofI (Int.gcd (nS n) (nS d)), 0) := by unfold iGcd; rw [if_pos (by simp [hn', hd']), nS_ofI, nS_ofI]
  rwa [e] at this
 have S4 : Hid (∀ W, Calls Tryz.prog 111 #[.string (ofI (nS n)), .string (ofI (Int.gcd (nS n) (nS d) : Int))] W fun e w' => e = .returned (vDiv (ofI ((nS n) / (Int.gcd (nS n) (nS d) : Int)), ofI ((nS n) % (Int.gcd (nS n) (nS d) : Int)), 0)) ∧ Below W.heap.size W w') := Lib.hid fun W => by
  have := refDiv_any (ofI (nS n)) (ofI (Int.gcd (nS n) (nS d) : Int)) W (size_vS hn') (size_vS hsg)
  rwa [iDiv_yes hn' hsg hg0, nS_ofI, nS_ofI] at this
 have S5 : Hid (∀ W, Calls Tryz.prog 111 #[.string (ofI (nS d)), .string (ofI (Int.gcd (nS n) (nS d) : Int))] W fun e w' => e = .returned (vDiv (ofI ((nS d) / (Int.gcd (nS n) (nS d) : Int)), ofI ((nS d) % (Int.gcd (nS n) (nS d) : Int)), 0)) ∧ Below W.heap.size W w') := Lib.hid fun W => by
  have := refDiv_any (ofI (nS d)) (ofI (Int.gcd (nS n) (nS d) : Int)) W (size_vS hd') (size_vS hsg)
  rwa [iDiv_yes hd' hsg hg0, nS_ofI, nS_ofI] at this
 rw [ofI_nS hn] at S3 S4
 rw [ofI_nS hd] at S3 S5
 generalize ofI (nS n / (Int.gcd (nS n) (nS d) : Int)) = q1 at *
 generalize ofI (nS d / (Int.gcd (nS n) (nS d) : Int)) = q2 at *
 generalize ofI (nS n % (Int.gcd (nS n) (nS d) : Int)) = r1 at *
 generalize ofI (nS d % (Int.gcd (nS n) (nS d) : Int)) = r2 at *
 generalize ofI (Int.gcd (nS n) (nS d) : Int) = g at *
 clear hn hd hs1 hs2 h0 hcv hnB hdB hn' hd' hsg hg0
 have q0 : Blk (w.alloc (.cells #[.string ⟨#[]⟩, .string ⟨#[]⟩] 26)) (w.heap.size) #[.string ⟨#[]⟩, .string ⟨#[]⟩] 26 := Blk.new w _ _
 have qL : Below w.heap.size w (w.alloc (.cells #[.string ⟨#[]⟩, .string ⟨#[]⟩] 26)) := (Below.refl _ w).alloc (Nat.le_refl _) _
 have R0 := Lib.hid q0
 have L0 := Lib.hid qL
 clear qL q0
 go_enter Tryz.func89, Tryz.ntmps89
 go_wp2_with fail
 try simp only [Nat.add_assoc, Nat.reduceAdd]
 generalize (w.alloc (.cells #[.string ⟨#[]⟩, .string ⟨#[]⟩] 26)) = w0 at *
 obtain ⟨r00, r01, r0f, r0g, r0l⟩ := blk2 R0.out
 refine (H1.out _).mono ?_
 rintro e wx ⟨rfl, rfl⟩
 go_wp2_with fail
 refine (H2.out _).mono ?_
 rintro e wx ⟨rfl, rfl⟩
 go_wp2_with fail
 refine (H3.out _).mono ?_
 rintro e w1 ⟨rfl, hb1⟩
 have R1 := Lib.hid (Blk.below R0.out hb1 R0.out.lt)
 have L1 := Lib.hid (L0.out.trans (hb1.mono L0.out.size))
 clear hb1
 obtain ⟨r10, r11, r1f, r1g, r1l⟩ := blk2 R1.out
 go_wp2_with fail
 refine (S3.out _).mono ?_
 rintro e w2 ⟨rfl, hb2⟩
 have R2 := Lib.hid (Blk.below R1.out hb2 R1.out.lt)
 have L2 := Lib.hid (L1.out.trans (hb2.mono L1.out.size))
 clear hb2
 obtain ⟨r20, r21, r2f, r2g, r2l⟩ := blk2 R2.out
 go_wp2_with fail
 refine (S4.out _).mono ?_
 rintro e w3 ⟨rfl, hb3⟩
 have R3 := Lib.hid (Blk.below R2.out hb3 R2.out.lt)
 have L3 := Lib.hid (L2.out.trans (hb3.mono L2.out.size))
 clear hb3
 obtain ⟨r30, r31, r3f, r3g, r3l⟩ := blk2 R3.out
 go_wp2_with fail
 refine (S5.out _).mono ?_
 rintro e w4 ⟨rfl, hb4⟩
 have R4 := Lib.hid (Blk.below R3.out hb4 R3.out.lt)
 have L4 := Lib.hid (L3.out.trans (hb4.mono L3.out.size))
 clear hb4
 obtain ⟨r40, r41, r4f, r4g, r4l⟩ := blk2 R4.out
 go_wp2
 refine bodyPost_ret (v := vRE ((q1, q2), 0)) (by simp [results, Tryz.results89, go_sem, r40, r41, r4f, r4g, r4l]) rfl ⟨rfl, ?_⟩
 exact (L4.out.setCell (by simp) _).setCell (by simp) _
set_option maxRecDepth 100000 in
set_option maxHeartbeats 1000000 in
theorem rm_neg (n d : ByteArray) (hn : vS n = true) (hd : vS d = true) (h0 : nS d < 0) (w : World) (hs1 : n.size ≤ maxLen) (hs2 : d.size ≤ maxLen) :
 Calls Tryz.prog 89 #[.string n, .string d] w (RatPost (redF false n d) w) := by
 have H1 := Lib.hid (fun w => refValid_is hn w hs1)
 have H2 := Lib.hid (fun w => refValid_is hd w hs2)
 have H3 := Lib.hid (fun w => refCompare_any d ⟨#[48]⟩ w hs2 (by decide))
 rw [iCmp_zero hd] at H3
 obtain ⟨cv, hcv⟩ : ∃ c, cmpI (nS d) 0 = c := ⟨_, rfl⟩
 rw [hcv] at H3
 rw [red_neg hn hd h0]
 have c4 : (d.toList == [48]) = false := by rw [eq48 hd]; simp; omega
 have hc : cv < 0 := by { rw [← hcv]; unfold cmpI; split <;> first | omega | (split <;> omega) }
 have hnB := nS_lt hn
 have hdB := nS_lt hd
 have hn' : vS (ofI (-nS n)) = true := vS_ofI (by rw [Int.natAbs_neg]; exact hnB)
 have hd' : vS (ofI (-nS d)) = true := vS_ofI (by rw [Int.natAbs_neg]; exact hdB)
 have S1 : Hid (∀ W, Calls Tryz.prog 103 #[.string ⟨#[48]⟩, .string n] W fun e w' => e = .returned (vSE (ofI (-nS n), 0)) ∧ Below W.heap.size W w') := Lib.hid fun W => by
  have := refSub_any ⟨#[48]⟩ n W (by decide) hs1
  rwa [iSub_chk vS_zero hn, nS_zero', Int.zero_sub, chkI_ok (by rw [Int.natAbs_neg]; exact hnB)] at this
 have S2 : Hid (∀ W, Calls Tryz.prog 103 #[.string ⟨#[48]⟩, .string d] W fun e w' => e = .returned (vSE (ofI (-nS d), 0)) ∧ Below W.heap.size W w') := Lib.hid fun W => by
  have := refSub_any ⟨#[48]⟩ d W (by decide) hs2
  rwa [iSub_chk vS_zero hd, nS_zero', Int.zero_sub, chkI_ok (by rw [Int.natAbs_neg]; exact hdB)] at this
 have hsg : vS (ofI (Int.gcd (-nS n) (-nS d) : Int)) = true := gcd_vS (by rw [Int.natAbs_neg]; exact hnB) (by rw [Int.natAbs_neg]; exact hdB)
 have hg0 : nS (ofI (Int.gcd (-nS n) (-nS d) : Int)) ≠ 0 := by
  rw [nS_ofI]
  have : 0 < Int.gcd (-nS n) (-nS d) := Int.gcd_pos_of_ne_zero_right _ (by omega)
  omega
 have S3 : Hid (∀ W, Calls Tryz.prog 110 #[.string (ofI (-nS n)), .string (ofI (-nS d))] W fun e w' => e = .returned (vSE (ofI (Int.gcd (-nS n) (-nS d)), 0)) ∧ Below W.heap.size W w') := Lib.hid fun W => by
  have := refGcd_any (ofI (-nS n)) (ofI (-nS d)) W (size_vS hn') (size_vS hd')
  have e : iGcd (ofI (-nS n)) (ofI (-nS d)) = (ofI (Int.gcd (-nS n) (-nS d)), 0) := by unfold iGcd; rw [if_pos (by simp [hn', hd']), nS_ofI, nS_ofI]
  rwa [e] at this
 have S4 : Hid (∀ W, Calls Tryz.prog 111 #[.string (ofI (-nS n)), .string (ofI (Int.gcd (-nS n) (-nS d) : Int))] W fun e w' => e = .returned (vDiv (ofI ((-nS n) / (Int.gcd (-nS n) (-nS d) : Int)), ofI ((-nS n) % (Int.gcd (-nS n) (-nS d) : Int)), 0)) ∧ Below W.heap.size W w') := Lib.hid fun W => by
  have := refDiv_any (ofI (-nS n)) (ofI (Int.gcd (-nS n) (-nS d) : Int)) W (size_vS hn') (size_vS hsg)
  rwa [iDiv_yes hn' hsg hg0, nS_ofI, nS_ofI] at this
 have S5 : Hid (∀ W, Calls Tryz.prog 111 #[.string (ofI (-nS d)), .string (ofI (Int.gcd (-nS n) (-nS d) : Int))] W fun e w' => e = .returned (vDiv (ofI ((-nS d) / (Int.gcd (-nS n) (-nS d) : Int)), ofI ((-nS d) % (Int.gcd (-nS n) (-nS d) : Int)), 0)) ∧ Below W.heap.size W w') := Lib.hid fun W => by
  have := refDiv_any (ofI (-nS d)) (ofI (Int.gcd (-nS n) (-nS d) : Int)) W (size_vS hd') (size_vS hsg)
  rwa [iDiv_yes hd' hsg hg0, nS_ofI, nS_ofI] at this
 generalize ofI ((-nS n) / (Int.gcd (-nS n) (-nS d) : Int)) = q1 at *
 generalize ofI ((-nS d) / (Int.gcd (-nS n) (-nS d) : Int)) = q2 at *
 generalize ofI ((-nS n) % (Int.gcd (-nS n) (-nS d) : Int)) = r1 at *
 generalize ofI ((-nS d) % (Int.gcd (-nS n) (-nS d) : Int)) = r2 at *
 generalize ofI (Int.gcd (-nS n) (-nS d) : Int) = g at *
 generalize ofI (-nS n) = n' at *
 generalize ofI (-nS d) = d' at *
 clear hn hd hs1 hs2 h0 hcv hnB hdB hn' hd' hsg hg0
 have q0 : Blk (w.alloc (.cells #[.string ⟨#[]⟩, .string ⟨#[]⟩] 26)) (w.heap.size) #[.string ⟨#[]⟩, .string ⟨#[]⟩] 26 := Blk.new w _ _
 have qL : Below w.heap.size w (w.alloc (.cells #[.string ⟨#[]⟩, .string ⟨#[]⟩] 26)) := (Below.refl _ w).alloc (Nat.le_refl _) _
 have R0 := Lib.hid q0
 have L0 := Lib.hid qL
 clear qL q0
 go_enter Tryz.func89, Tryz.ntmps89
 go_wp2_with fail
 try simp only [Nat.add_assoc, Nat.reduceAdd]
 generalize (w.alloc (.cells #[.string ⟨#[]⟩, .string ⟨#[]⟩] 26)) = w0 at *
 obtain ⟨r00, r01, r0f, r0g, r0l⟩ := blk2 R0.out
 refine (H1.out _).mono ?_
 rintro e wx ⟨rfl, rfl⟩
 go_wp2_with fail
 refine (H2.out _).mono ?_
 rintro e wx ⟨rfl, rfl⟩
 go_wp2_with fail
 refine (H3.out _).mono ?_
 rintro e w1 ⟨rfl, hb1⟩
 have R1 := Lib.hid (Blk.below R0.out hb1 R0.out.lt)
 have L1 := Lib.hid (L0.out.trans (hb1.mono L0.out.size))
 clear hb1
 obtain ⟨r10, r11, r1f, r1g, r1l⟩ := blk2 R1.out
 go_wp2_with fail
 refine (S1.out _).mono ?_
 rintro e w2 ⟨rfl, hb2⟩
 have R2 := Lib.hid (Blk.below R1.out hb2 R1.out.lt)
 have L2 := Lib.hid (L1.out.trans (hb2.mono L1.out.size))
 clear hb2
 obtain ⟨r20, r21, r2f, r2g, r2l⟩ := blk2 R2.out
 go_wp2_with fail
 refine (S2.out _).mono ?_
 rintro e w3 ⟨rfl, hb3⟩
 have R3 := Lib.hid (Blk.below R2.out hb3 R2.out.lt)
 have L3 := Lib.hid (L2.out.trans (hb3.mono L2.out.size))
 clear hb3
 obtain ⟨r30, r31, r3f, r3g, r3l⟩ := blk2 R3.out
 go_wp2_with fail
 refine (S3.out _).mono ?_
 rintro e w4 ⟨rfl, hb4⟩
 have R4 := Lib.hid (Blk.below R3.out hb4 R3.out.lt)
 have L4 := Lib.hid (L3.out.trans (hb4.mono L3.out.size))
 clear hb4
 obtain ⟨r40, r41, r4f, r4g, r4l⟩ := blk2 R4.out
 go_wp2_with fail
 refine (S4.out _).mono ?_
 rintro e w5 ⟨rfl, hb5⟩
 have R5 := Lib.hid (Blk.below R4.out hb5 R4.out.lt)
 have L5 := Lib.hid (L4.out.trans (hb5.mono L4.out.size))
 clear hb5
 obtain ⟨r50, r51, r5f, r5g, r5l⟩ := blk2 R5.out
 go_wp2_with fail
 refine (S5.out _).mono ?_
 rintro e w6 ⟨rfl, hb6⟩
 have R6 := Lib.hid (Blk.below R5.out hb6 R5.out.lt)
 have L6 := Lib.hid (L5.out.trans (hb6.mono L5.out.size))
 clear hb6
 obtain ⟨r60, r61, r6f, r6g, r6l⟩ := blk2 R6.out
 go_wp2
 refine bodyPost_ret (v := vRE ((q1, q2), 0)) (by simp [results, Tryz.results89, go_sem, r60, r61, r6f, r6g, r6l]) rfl ⟨rfl, ?_⟩
 exact (L6.out.setCell (by simp) _).setCell (by simp) _
theorem ref4Make_any (n d : ByteArray) (w : World) (hs1 : n.size ≤ maxLen) (hs2 : d.size ≤ maxLen) : Calls Tryz.prog 89 #[.string n, .string d] w (RatPost (rMake n d) w) := by
 have no : (vS n && vS d) = false ∨ nS d = 0 → rMake n d = (noR, 40) := by
  intro h
  unfold rMake
  rw [if_neg]
  rcases h with h | h
  · rw [h]; simp
  · simp [h]
 cases hn : vS n with
 | false => rw [no (.inl (by simp [hn]))]; exact rm_no1 n d hn _ rfl w hs1 hs2
 | true =>
   cases hd : vS d with
   | false => rw [no (.inl (by simp [hd]))]; exact rm_no2 n d hn hd w hs1 hs2
   | true =>
     rcases Int.lt_trichotomy (nS d) 0 with h0 | h0 | h0
     · exact rm_neg n d hn hd h0 w hs1 hs2
     · rw [no (.inr h0)]; exact rm_zero n d hn hd h0 w hs1 hs2
     · exact rm_pos n d hn hd h0 w hs1 hs2
set_option maxRecDepth 100000 in
set_option maxHeartbeats 1000000 in
theorem ref4Of_any (n d : Int) (w : World) (hn0 : -9223372036854775808 ≤ n) (hn1 : n ≤ 9223372036854775807) (hd0 : -9223372036854775808 ≤ d) (hd1 : d ≤ 9223372036854775807) :
 Calls Tryz.prog 36 #[.int .i64 n, .int .i64 d] w (RatPost (rMk n d) w) := by
 rw [← rMake_ofI]
 have H1 := Lib.hid (fun w => refFromInt_any n w hn0 hn1)
 have H2 := Lib.hid (fun w => refFromInt_any d w hd0 hd1)
 have H3 := Lib.hid (fun w => ref4Make_any (ofI n) (ofI d) w (size_ofI hn0 hn1) (size_ofI hd0 hd1))
 clear hn0 hn1 hd0 hd1
 generalize rMake (ofI n) (ofI d) = r at *
 generalize ofI n = n' at *
 generalize ofI d = d' at *
 have q0 : Blk (w.alloc (.cells #[.string ⟨#[]⟩, .string ⟨#[]⟩] 26)) (w.heap.size) #[.string ⟨#[]⟩, .string ⟨#[]⟩] 26 := Blk.new w _ _
 have qL : Below w.heap.size w (w.alloc (.cells #[.string ⟨#[]⟩, .string ⟨#[]⟩] 26)) := (Below.refl _ w).alloc (Nat.le_refl _) _
 have R0 := Lib.hid q0
 have L0 := Lib.hid qL
 clear qL q0
 go_enter Tryz.func36, Tryz.ntmps36
 go_wp2_with fail
 try simp only [Nat.add_assoc, Nat.reduceAdd]
 generalize (w.alloc (.cells #[.string ⟨#[]⟩, .string ⟨#[]⟩] 26)) = w0 at *
 refine (H1.out _).mono ?_
 rintro e w1 ⟨rfl, hb1⟩
 have R1 := Lib.hid (Blk.below R0.out hb1 R0.out.lt)
 have L1 := Lib.hid (L0.out.trans (hb1.mono L0.out.size))
 clear hb1
 obtain ⟨r10, r11, r1f, r1g, r1l⟩ := blk2 R1.out
 go_wp2_with fail
 refine (H2.out _).mono ?_
 rintro e w2 ⟨rfl, hb2⟩
 have R2 := Lib.hid (Blk.below R1.out hb2 R1.out.lt)
 have L2 := Lib.hid (L1.out.trans (hb2.mono L1.out.size))
 clear hb2
 obtain ⟨r20, r21, r2f, r2g, r2l⟩ := blk2 R2.out
 go_wp2_with fail
 refine (H3.out _).mono ?_
 rintro e w3 ⟨rfl, hb3⟩
 have R3 := Lib.hid (Blk.below R2.out hb3 R2.out.lt)
 have L3 := Lib.hid (L2.out.trans (hb3.mono L2.out.size))
 clear hb3
 obtain ⟨r30, r31, r3f, r3g, r3l⟩ := blk2 R3.out
 obtain ⟨⟨q1, q2⟩, q3⟩ := r
 go_wp2
 refine bodyPost_ret (v := vRE ((q1, q2), q3)) (by simp [results, Tryz.results36, go_sem, r30, r31, r3f, r3g, r3l]) rfl ⟨rfl, ?_⟩
 exact (L3.out.setCell (by simp) _).setCell (by simp) _
end Go.Proofs.YtnfamgpjehohaaaGreatDoor
