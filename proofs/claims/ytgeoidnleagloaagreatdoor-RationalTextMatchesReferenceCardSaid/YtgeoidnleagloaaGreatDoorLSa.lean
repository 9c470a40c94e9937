/- The contracts of the rational layer and of its reference as the symbolic run takes them. -/
import Derived.Test.YtgeoidnleagloaaGreatDoorSy
import Derived.Test.YtgeoidnleagloaaGreatDoorQD
import Derived.Test.YtgeoidnleagloaaGreatDoorQE
import Derived.Test.YtgeoidnleagloaaGreatDoorQF
import Derived.Test.YtgeoidnleagloaaGreatDoorQG
import Derived.Test.YtgeoidnleagloaaGreatDoorQH
import Derived.Test.YtgeoidnleagloaaGreatDoorSA
import Derived.Test.YtgeoidnleagloaaGreatDoorSB
import Derived.Test.YtgeoidnleagloaaGreatDoorSC
import Derived.Test.YtgeoidnleagloaaGreatDoorSD
import Derived.Test.YtgeoidnleagloaaGreatDoorSE
import Derived.Test.YtgeoidnleagloaaGreatDoorSF
import Derived.Test.YtgeoidnleagloaaGreatDoorSG
set_option linter.unusedVariables false
set_option linter.unusedSimpArgs false
namespace Go.Proofs.YtgeoidnleagloaaGreatDoor
open Go.RowKit Go.Sy Yk

def sz (a : ByteArray) : Bool := decide (a.size ≤ maxLen)
def svR (a : RS) : SV := .agg [.val (.string a.1), .val (.string a.2)]
def svRE (r : RS × Int) : SV := .tup [.agg [.val (.string r.1.1), .val (.string r.1.2)], .val (.int .i64 r.2)]
def i64 (n : Int) : Bool := inR .i64 n

theorem i64_iff {n : Int} : i64 n = true ↔ -9223372036854775808 ≤ n ∧ n ≤ 9223372036854775807 := inR_iff
theorem sz_iff {a : ByteArray} : sz a = true ↔ a.size ≤ maxLen := by simp [sz]

def cRR (f : RS → RS → RS × Int) : Ctr := fun args => match args with
  | [.agg [.val (.string a), .val (.string b)], .agg [.val (.string c), .val (.string d)]] => some (sz a && sz b && sz c && sz d, svRE (f (a, b) (c, d)))
  | _ => none
def cCmp (f : RS → RS → Int) : Ctr := fun args => match args with
  | [.agg [.val (.string a), .val (.string b)], .agg [.val (.string c), .val (.string d)]] => some (sz a && sz b && sz c && sz d, .val (.int .i64 (f (a, b) (c, d))))
  | _ => none
def cRI (f : RS → Int → RS × Int) : Ctr := fun args => match args with
  | [.agg [.val (.string a), .val (.string b)], .val (.int .i64 p)] => some (sz a && sz b, svRE (f (a, b) p))
  | _ => none
def cRB (f : RS → Bool) : Ctr := fun args => match args with
  | [.agg [.val (.string a), .val (.string b)]] => some (sz a && sz b, .val (.bool (f (a, b))))
  | _ => none
def cRS (f : RS → ByteArray) : Ctr := fun args => match args with
  | [.agg [.val (.string a), .val (.string b)]] => some (sz a && sz b, .val (.string (f (a, b))))
  | _ => none
def cRR1 (f : RS → RS) : Ctr := fun args => match args with
  | [.agg [.val (.string a), .val (.string b)]] => some (sz a && sz b, svR (f (a, b)))
  | _ => none
def cSR (f : ByteArray → RS × Int) : Ctr := fun args => match args with
  | [.val (.string s)] => some (decide (s.size ≤ 100000), svRE (f s))
  | _ => none
def cSSR (f : ByteArray → ByteArray → RS × Int) : Ctr := fun args => match args with
  | [.val (.string a), .val (.string b)] => some (sz a && sz b, svRE (f a b))
  | _ => none
def cIIR (f : Int → Int → RS × Int) : Ctr := fun args => match args with
  | [.val (.int .i64 a), .val (.int .i64 b)] => some (i64 a && i64 b, svRE (f a b))
  | _ => none
def cIs : Ctr := fun args => match args with
  | [.val (.string a), .val (.string b)] => some (true, .agg [.val (.string a), .val (.string b)])
  | _ => none
def cTrue : Ctr := fun args => match args with
  | [] => some (true, .val (.bool true))
  | _ => none

section
variable {W0 : World}

theorem ctrRR {F : FuncId} {f : RS → RS → RS × Int} (H : ∀ a b w, Below W0.heap.size W0 w → Sz a → Sz b → Calls Tryz.prog F #[vR a, vR b] w (RatPost (f a b) w)) : CtrOK Tryz.prog W0 F (cRR f) := by
  intro β w args b s hb h hn
  unfold cRR at h
  split at h
  · rename_i a1 a2 b1 b2
    simp only [Option.some.injEq, Prod.mk.injEq] at h
    obtain ⟨rfl, rfl⟩ := h
    simp only [Bool.and_eq_true, sz_iff] at hn
    refine ⟨by simp [svRE, SV.ids, SV.idss], ?_⟩
    exact (H (a1, a2) (b1, b2) w hb ⟨hn.1.1.1, hn.1.1.2⟩ ⟨hn.1.2, hn.2⟩).mono fun e w' ⟨h1, h2⟩ => ⟨h1, h2⟩
  · cases h
theorem ctrCmp {F : FuncId} {f : RS → RS → Int} (H : ∀ a b w, Below W0.heap.size W0 w → Sz a → Sz b → Calls Tryz.prog F #[vR a, vR b] w fun e w' => e = .returned (.int .i64 (f a b)) ∧ Below w.heap.size w w') : CtrOK Tryz.prog W0 F (cCmp f) := by
  intro β w args b s hb h hn
  unfold cCmp at h
  split at h
  · rename_i a1 a2 b1 b2
    simp only [Option.some.injEq, Prod.mk.injEq] at h
    obtain ⟨rfl, rfl⟩ := h
    simp only [Bool.and_eq_true, sz_iff] at hn
    refine ⟨by simp [SV.ids], ?_⟩
    exact (H (a1, a2) (b1, b2) w hb ⟨hn.1.1.1, hn.1.1.2⟩ ⟨hn.1.2, hn.2⟩).mono fun e w' ⟨h1, h2⟩ => ⟨h1, h2⟩
  · cases h
theorem ctrRI {F : FuncId} {f : RS → Int → RS × Int} (H : ∀ a p w, Below W0.heap.size W0 w → Sz a → Calls Tryz.prog F #[vR a, .int .i64 p] w (RatPost (f a p) w)) : CtrOK Tryz.prog W0 F (cRI f) := by
  intro β w args b s hb h hn
  unfold cRI at h
  split at h
  · rename_i a1 a2 p
    simp only [Option.some.injEq, Prod.mk.injEq] at h
    obtain ⟨rfl, rfl⟩ := h
    simp only [Bool.and_eq_true, sz_iff] at hn
    refine ⟨by simp [svRE, SV.ids, SV.idss], ?_⟩
    exact (H (a1, a2) p w hb ⟨hn.1, hn.2⟩).mono fun e w' ⟨h1, h2⟩ => ⟨h1, h2⟩
  · cases h
theorem ctrRB {F : FuncId} {f : RS → Bool} (H : ∀ a w, Below W0.heap.size W0 w → Sz a → Calls Tryz.prog F #[vR a] w fun e w' => e = .returned (.bool (f a)) ∧ Below w.heap.size w w') : CtrOK Tryz.prog W0 F (cRB f) := by
  intro β w args b s hb h hn
  unfold cRB at h
  split at h
  · rename_i a1 a2
    simp only [Option.some.injEq, Prod.mk.injEq] at h
    obtain ⟨rfl, rfl⟩ := h
    simp only [Bool.and_eq_true, sz_iff] at hn
    exact ⟨by simp [SV.ids], (H (a1, a2) w hb ⟨hn.1, hn.2⟩).mono fun e w' ⟨h1, h2⟩ => ⟨h1, h2⟩⟩
  · cases h
theorem ctrRS {F : FuncId} {f : RS → ByteArray} (H : ∀ a w, Below W0.heap.size W0 w → Sz a → Calls Tryz.prog F #[vR a] w fun e w' => e = .returned (.string (f a)) ∧ Below w.heap.size w w') : CtrOK Tryz.prog W0 F (cRS f) := by
  intro β w args b s hb h hn
  unfold cRS at h
  split at h
  · rename_i a1 a2
    simp only [Option.some.injEq, Prod.mk.injEq] at h
    obtain ⟨rfl, rfl⟩ := h
    simp only [Bool.and_eq_true, sz_iff] at hn
    exact ⟨by simp [SV.ids], (H (a1, a2) w hb ⟨hn.1, hn.2⟩).mono fun e w' ⟨h1, h2⟩ => ⟨h1, h2⟩⟩
  · cases h
theorem ctrRR1 {F : FuncId} {f : RS → RS} (H : ∀ a w, Below W0.heap.size W0 w → Sz a → Calls Tryz.prog F #[vR a] w fun e w' => e = .returned (vR (f a)) ∧ Below w.heap.size w w') : CtrOK Tryz.prog W0 F (cRR1 f) := by
  intro β w args b s hb h hn
  unfold cRR1 at h
  split at h
  · rename_i a1 a2
    simp only [Option.some.injEq, Prod.mk.injEq] at h
    obtain ⟨rfl, rfl⟩ := h
    simp only [Bool.and_eq_true, sz_iff] at hn
    exact ⟨by simp [svR, SV.ids, SV.idss], (H (a1, a2) w hb ⟨hn.1, hn.2⟩).mono fun e w' ⟨h1, h2⟩ => ⟨h1, h2⟩⟩
  · cases h
theorem ctrSR {F : FuncId} {f : ByteArray → RS × Int} (H : ∀ a w, Below W0.heap.size W0 w → a.size ≤ 100000 → Calls Tryz.prog F #[.string a] w (RatPost (f a) w)) : CtrOK Tryz.prog W0 F (cSR f) := by
  intro β w args b s hb h hn
  unfold cSR at h
  split at h
  · rename_i a
    simp only [Option.some.injEq, Prod.mk.injEq] at h
    obtain ⟨rfl, rfl⟩ := h
    simp only [decide_eq_true_eq] at hn
    exact ⟨by simp [svRE, SV.ids, SV.idss], (H a w hb hn).mono fun e w' ⟨h1, h2⟩ => ⟨h1, h2⟩⟩
  · cases h
theorem ctrSSR {F : FuncId} {f : ByteArray → ByteArray → RS × Int} (H : ∀ a b w, Below W0.heap.size W0 w → a.size ≤ maxLen → b.size ≤ maxLen → Calls Tryz.prog F #[.string a, .string b] w (RatPost (f a b) w)) : CtrOK Tryz.prog W0 F (cSSR f) := by
  intro β w args b s hb h hn
  unfold cSSR at h
  split at h
  · rename_i a b'
    simp only [Option.some.injEq, Prod.mk.injEq] at h
    obtain ⟨rfl, rfl⟩ := h
    simp only [Bool.and_eq_true, sz_iff] at hn
    exact ⟨by simp [svRE, SV.ids, SV.idss], (H a b' w hb hn.1 hn.2).mono fun e w' ⟨h1, h2⟩ => ⟨h1, h2⟩⟩
  · cases h
theorem ctrIIR {F : FuncId} {f : Int → Int → RS × Int} (H : ∀ a b w, Below W0.heap.size W0 w → (-9223372036854775808 ≤ a ∧ a ≤ 9223372036854775807) → (-9223372036854775808 ≤ b ∧ b ≤ 9223372036854775807) → Calls Tryz.prog F #[.int .i64 a, .int .i64 b] w (RatPost (f a b) w)) : CtrOK Tryz.prog W0 F (cIIR f) := by
  intro β w args b s hb h hn
  unfold cIIR at h
  split at h
  · rename_i a b'
    simp only [Option.some.injEq, Prod.mk.injEq] at h
    obtain ⟨rfl, rfl⟩ := h
    simp only [Bool.and_eq_true, i64_iff] at hn
    exact ⟨by simp [svRE, SV.ids, SV.idss], (H a b' w hb hn.1 hn.2).mono fun e w' ⟨h1, h2⟩ => ⟨h1, h2⟩⟩
  · cases h

/-- Some fraction of few digits, of four integers. -/
def mLong : MCtr := fun _ _ args => match args with
  | [.agg [.val (.int .i64 a), .val (.int .i64 b), .val (.int .i64 c), .val (.int .i64 d)]] => some ⟨Rat, i64 a && i64 b && i64 c && i64 d, Few 100, fun q => { out := .agg [.val (.string (rT q).1), .val (.string (rT q).2)] }⟩
  | _ => none
def mSmall : MCtr := fun _ _ args => match args with
  | [.agg [.val (.int .i64 a), .val (.int .i64 b)]] => some ⟨Rat, i64 a && i64 b, Few 3, fun q => { out := .agg [.val (.string (rT q).1), .val (.string (rT q).2)] }⟩
  | _ => none

theorem mctrLong : MCtrOK Tryz.prog W0 12 mLong := by
  intro bl β w id args C hbc hl hid h hp
  unfold mLong at h
  split at h
  · rename_i a b c d
    simp only [Option.some.injEq] at h
    subst h
    simp only [Bool.and_eq_true, i64_iff] at hp
    obtain ⟨⟨⟨⟨a1, a2⟩, b1, b2⟩, c1, c2⟩, d1, d2⟩ := hp
    refine (long_any a b c d a1 a2 b1 b2 c1 c2 d1 d2 w).mono ?_
    rintro e w' ⟨q, rfl, hq, hb⟩
    exact ⟨q, hq, β, rfl, good_pure hbc (by simp [SV.ids, SV.idss]) hb⟩
  · cases h
theorem mctrSmall : MCtrOK Tryz.prog W0 28 mSmall := by
  intro bl β w id args C hbc hl hid h hp
  unfold mSmall at h
  split at h
  · rename_i a b
    simp only [Option.some.injEq] at h
    subst h
    simp only [Bool.and_eq_true, i64_iff] at hp
    obtain ⟨⟨a1, a2⟩, b1, b2⟩ := hp
    refine (small_any a b a1 a2 b1 b2 w).mono ?_
    rintro e w' ⟨q, rfl, hq, hb⟩
    exact ⟨q, hq, β, rfl, good_pure hbc (by simp [SV.ids, SV.idss]) hb⟩
  · cases h

theorem ctrTrue {F : FuncId} (H : ∀ w, Below W0.heap.size W0 w → Calls Tryz.prog F #[] w fun e w' => e = .returned (.bool true) ∧ Below w.heap.size w w') : CtrOK Tryz.prog W0 F cTrue := by
  intro β w args b s hb h hn
  unfold cTrue at h
  split at h
  · simp only [Option.some.injEq, Prod.mk.injEq] at h
    obtain ⟨_, rfl⟩ := h
    exact ⟨by simp [SV.ids], (H w hb).mono fun e w' ⟨h1, h2⟩ => ⟨h1, h2⟩⟩
  · cases h

/-- The contracts. -/
def gam0 : List (FuncId × Ctr) := [(27, cRR rAdd),
  (44, cRR rSub),
  (25, cRR rMul),
  (26, cRR rDiv),
  (30, cRR rAdd),
  (31, cRR rSub),
  (32, cRR rMul),
  (33, cRR rDiv),
  (23, cCmp rCmp),
  (34, cCmp rCmp),
  (35, cRI rDown),
  (37, cRI rUp),
  (36, cRI rDown),
  (38, cRI rUp),
  (17, cRB rV),
  (40, cRB rV),
  (14, cRS rPrint),
  (16, cRS rPrint),
  (15, cSR rParse),
  (19, cSR rParse),
  (22, cSSR rMake),
  (39, cSSR rMake),
  (41, cIIR rMk),
  (42, cIIR rMk)]
def gamM : List (FuncId × MCtr) := [(12, mLong), (28, mSmall)]
/-- The functions that are gone through or met by a contract over blocks. -/
def oks : List FuncId := [12, 28, 24, 45, 11, 18, 13, 29, 5, 4, 9, 10, 8, 7, 6, 3]

theorem gam0_ok (hg : Glob W0) : ∀ p ∈ gam0, CtrOK Tryz.prog W0 p.1 p.2 ∧ Callable Tryz.prog p.1 := by
  have G : ∀ w, Below W0.heap.size W0 w → Glob w := fun w hb => hg.below hb
  simp only [gam0, List.forall_mem_cons, List.forall_mem_nil]
  exact ⟨⟨ctrRR fun a b w hb ha hb' => ratAdd_any a b w (G w hb) ha hb', Tryz.call27⟩,
      ⟨ctrRR fun a b w hb ha hb' => ratSub_any a b w (G w hb) ha hb', Tryz.call44⟩,
      ⟨ctrRR fun a b w hb ha hb' => ratMul_any a b w (G w hb) ha hb', Tryz.call25⟩,
      ⟨ctrRR fun a b w hb ha hb' => ratDiv_any a b w (G w hb) ha hb', Tryz.call26⟩,
      ⟨ctrRR fun a b w hb ha hb' => ref4Add_any a b w ha hb', Tryz.call30⟩,
      ⟨ctrRR fun a b w hb ha hb' => ref4Sub_any a b w ha hb', Tryz.call31⟩,
      ⟨ctrRR fun a b w hb ha hb' => ref4Mul_any a b w ha hb', Tryz.call32⟩,
      ⟨ctrRR fun a b w hb ha hb' => ref4Div_any a b w ha hb', Tryz.call33⟩,
      ⟨ctrCmp fun a b w hb ha hb' => ratCompare_any a b w (G w hb) ha hb', Tryz.call23⟩,
      ⟨ctrCmp fun a b w hb ha hb' => ref4Compare_any a b w ha hb', Tryz.call34⟩,
      ⟨ctrRI fun a p w hb ha => ratDown_any a p w (G w hb) ha, Tryz.call35⟩,
      ⟨ctrRI fun a p w hb ha => ratUp_any a p w (G w hb) ha, Tryz.call37⟩,
      ⟨ctrRI fun a p w hb ha => ref4Down_any a p w ha, Tryz.call36⟩,
      ⟨ctrRI fun a p w hb ha => ref4Up_any a p w ha, Tryz.call38⟩,
      ⟨ctrRB fun a w hb ha => ratValid_any a w (G w hb) ha.1 ha.2, Tryz.call17⟩,
      ⟨ctrRB fun a w hb ha => ref4Valid_any a w ha, Tryz.call40⟩,
      ⟨ctrRS fun a w hb ha => ratPrint_any a w (G w hb) ha, Tryz.call14⟩,
      ⟨ctrRS fun a w hb ha => ref4Print_any a w ha, Tryz.call16⟩,
      ⟨ctrSR fun a w hb ha => ratParse_any a w (G w hb) ha, Tryz.call15⟩,
      ⟨ctrSR fun a w hb ha => ref4Parse_any a w ha, Tryz.call19⟩,
      ⟨ctrSSR fun a b w hb ha hb' => ratMake_any a b w (G w hb) ha hb', Tryz.call22⟩,
      ⟨ctrSSR fun a b w hb ha hb' => ref4Make_any a b w ha hb', Tryz.call39⟩,
      ⟨ctrIIR fun a b w hb ha hb' => ratOf_any a b w (G w hb) ha.1 ha.2 hb'.1 hb'.2, Tryz.call41⟩,
      ⟨ctrIIR fun a b w hb ha hb' => ref4Of_any a b w ha.1 ha.2 hb'.1 hb'.2, Tryz.call42⟩, fun _ h => by cases h⟩
theorem gamM_ok : ∀ p ∈ gamM, MCtrOK Tryz.prog W0 p.1 p.2 := by
  simp only [gamM, List.forall_mem_cons, List.forall_mem_nil]
  exact ⟨mctrLong, mctrSmall, fun _ h => by cases h⟩
theorem oks_ok : ∀ f ∈ oks, Callable Tryz.prog f := by
  simp only [oks, List.forall_mem_cons, List.forall_mem_nil]
  exact ⟨Tryz.call12, Tryz.call28, Tryz.call24, Tryz.call45, Tryz.call11, Tryz.call18, Tryz.call13, Tryz.call29, Tryz.call5, Tryz.call4, Tryz.call9, Tryz.call10, Tryz.call8, Tryz.call7, Tryz.call6, Tryz.call3, fun _ h => by cases h⟩
theorem mixed : Tryz.prog.follows .mixedOrders = true := by kernel_rfl
/-- A contract of a value of no arguments. -/
theorem cons_ok {g : List (FuncId × Ctr)} {f : FuncId} {k : Ctr} (h : CtrOK Tryz.prog W0 f k) (hc : Callable Tryz.prog f) (hg : ∀ p ∈ g, CtrOK Tryz.prog W0 p.1 p.2 ∧ Callable Tryz.prog p.1) : ∀ p ∈ (f, k) :: g, CtrOK Tryz.prog W0 p.1 p.2 ∧ Callable Tryz.prog p.1 := by
  intro p hp
  rcases List.mem_cons.1 hp with rfl | hp
  · exact ⟨h, hc⟩
  · exact hg p hp

/-- A contract out of a run: the run yields the value, whatever is asked of it. -/
theorem ctr_of_run {g : List (FuncId × Ctr)} (hg : ∀ W, Below W0.heap.size W0 W → ∀ p ∈ g, CtrOK Tryz.prog W p.1 p.2 ∧ Callable Tryz.prog p.1) {f : FuncId} {k : Ctr} {ann : FuncId → Nat → Option Ann} {n : Nat}
    (h : ∀ args b s, k args = some (b, s) → b = true → SV.idss args = [] ∧ s.ids = [] ∧ inlN Tryz.prog (oneOf oks) (lookG g) (lookM gamM) ann n f args (fun _ => none) 0 [] fun r _ _ _ => r = s) : CtrOK Tryz.prog W0 f k := by
  intro β w args b s hb hk hn
  obtain ⟨h1, h2, h3⟩ := h args b s hk hn
  refine ⟨h2, ?_⟩
  have H : Hyp Tryz.prog w (oneOf oks) (lookG g) (lookM gamM) := hyp_of (hg w hb) gamM_ok oks_ok mixed
  obtain ⟨_, hc⟩ := inlN_sound H ann n f args (fun _ => none) 0 [] _ β w h3 (bc_start w β) (fun _ _ => rfl) (fun s hs i hi => by
    have : i ∈ SV.idss args := SV.mem_idss.2 ⟨s, hs, hi⟩
    rw [h1] at this; cases this)
  refine Calls.mono hc ?_
  rintro e w' ⟨β', r, bl', nx', wl', rfl, rfl, hbc, _⟩
  exact ⟨by rw [SV.conc_congr r (β := β) (β' := β') (fun i hi => by rw [h2] at hi; cases hi)], hbc.below⟩
end
end Go.Proofs.YtgeoidnleagloaaGreatDoor
