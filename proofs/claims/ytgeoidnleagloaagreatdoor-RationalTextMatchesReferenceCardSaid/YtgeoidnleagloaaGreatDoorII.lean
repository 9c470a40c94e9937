/- Walks of package integer: quotients of absolute values. -/
import Derived.Laws.EntriesVeiled
import Derived.Test.YtgeoidnleagloaaGreatDoorIH
import Derived.Test.YtgeoidnleagloaaGreatDoorMathJ
import Derived.Test.YtgeoidnleagloaaGreatDoorWL
set_option linter.unusedVariables false
set_option linter.unusedSimpArgs false
namespace Go.Proofs.YtgeoidnleagloaaGreatDoor
open Go.RowKit Yk
attribute [local go_sem] Oper.semAt_some

/-- What a round of 'over' keeps at any place within it. -/
def OvAt (w : World) (Z n : Nat) (mv : Value) (W X : World) (rv : Value) (ql : List Nat) (R : Nat) : Prop :=
  (Blk X w.heap.size #[mv] 98 ∧ Blk X (w.heap.size + 1) #[.slice (some ⟨w.heap.size + 3, 0, none⟩) n n] 98 ∧ Blk X (w.heap.size + 2) #[rv] 98 ∧
    OwnL encN 3 X (w.heap.size + 3) (.slice (some ⟨w.heap.size + 3, 0, none⟩) n n) ql ∧ Rd encN X rv (digs 10000 R) ∧ From (Z + 1) rv) ∧
  (w.heap.size + 4 ≤ Z ∧ Z + 1 ≤ X.heap.size ∧ Below w.heap.size w X) ∧ KeepsOthers W X ∧ KpB w.heap.size Z W X
section
variable {w W X : World} {Z n : Nat} {mv rv : Value} {ql : List Nat} {R : Nat}
theorem OvAt.start (h : OvAt w Z n mv W X rv ql R) : OvAt w Z n mv X X rv ql R := ⟨h.1, h.2.1, KeepsOthers.refl _, KpB.refl _ _ _⟩
theorem OvAt.grow {X' : World} (h : OvAt w Z n mv W X rv ql R) (hb : Below X.heap.size X X') : OvAt w Z n mv W X' rv ql R := by
  obtain ⟨⟨h1, h2, h3, h4, h5, h6⟩, ⟨h7, h8, h9⟩, h10, h11⟩ := h
  exact ⟨⟨h1.below hb (by omega), h2.below hb (by omega), h3.below hb (by omega), h4.belowTo hb, h5.below hb, h6⟩, ⟨h7, Nat.le_trans h8 hb.size, h9.trans (hb.mono (by omega))⟩, h10.trans (keepsOthers_of_below hb (Nat.le_refl _)), h11.trans (KpB.of_below hb (by omega) (by omega))⟩
theorem OvAt.alloc (h : OvAt w Z n mv W X rv ql R) (o : Obj) : OvAt w Z n mv W (X.alloc o) rv ql R := h.grow ((Below.refl _ X).alloc (Nat.le_refl _) _)
theorem OvAt.drew (h : OvAt w Z n mv W X rv ql R) : OvAt w Z n mv W X.drew rv ql R := h.grow (Below.refl _ X).drew
theorem OvAt.setR {rv' : Value} {R' : Nat} (h : OvAt w Z n mv W X rv ql R) (hr : Rd encN X rv' (digs 10000 R')) (hf : From (Z + 1) rv') : OvAt w Z n mv W (X.setCell ⟨w.heap.size + 2, 0, none⟩ rv') rv' ql R' := by
  obtain ⟨⟨h1, h2, h3, h4, h5, h6⟩, ⟨h7, h8, h9⟩, h10, h11⟩ := h
  exact ⟨⟨h1.setOther (by simp) _, h2.setOther (by simp) _, h3.set 0 _, h4.setOther (by simp) _, hr.setCell hf (by simp; omega) _, hf⟩, ⟨h7, by simpa [World.setCell] using h8, h9.setCell (by simp) _⟩, h10.trans (KeepsOthers.setCell _ _ _), h11.trans (KpB.setCell _ (by simp) (by simp; omega) _)⟩
theorem OvAt.setQ (h : OvAt w Z n mv W X rv ql R) (j d : Nat) (hj : j < ql.length) {u : Value} (hu : u = encN d) : OvAt w Z n mv W (X.setCell ⟨w.heap.size + 3, j, none⟩ u) rv (ql.set j d) R := by
  obtain ⟨⟨h1, h2, h3, h4, h5, h6⟩, ⟨h7, h8, h9⟩, h10, h11⟩ := h
  exact ⟨⟨h1.setOther (by simp) _, h2.setOther (by simp) _, h3.setOther (by simp) _, h4.set j hj d hu, h5.setCell h6 (by simp; omega) _, h6⟩, ⟨h7, by simpa [World.setCell] using h8, h9.setCell (by simp) _⟩, h10.trans (KeepsOthers.setCell _ _ _), h11.trans (KpB.setCell _ (by simp) (by simp; omega) _)⟩
theorem OvAt.keptBy {A B : World} {row : Option Nat} (h : OvAt w Z n mv A A rv ql R) (hg : A.grownBy B row) (hr : ∀ r, row = some r → ∃ o : Obj, A.heap[r]? = some o ∧ o.isCells = false) (hB : Below w.heap.size A B) : OvAt w Z n mv B B rv ql R := by
  obtain ⟨⟨h1, h2, h3, h4, h5, h6⟩, ⟨h7, h8, h9⟩, _, _⟩ := h
  exact ⟨⟨h1.kept hg hr, h2.kept hg hr, h3.kept hg hr, h4.kept hg hr, rd_kept h5 hg hr, h6⟩, ⟨h7, Nat.le_trans h8 hg.size, h9.trans hB⟩, KeepsOthers.refl _, KpB.refl _ _ _⟩
end
/-- What a round of 'over' keeps. -/
def OverInv {l : List Nat} (y n Z : Nat) (mv : Value) (w : World) (pre : List (Place l)) (W : World) : Prop :=
  ∃ rv, OvAt w Z n mv W W rv (ovFold y n pre).2 (ovFold y n pre).1

theorem wpIn_end {F : Fence} {n : Nat} {P : Program} {c : Code} {Q : Exit → Act → World → Prop} {a : Act} {w : World} (R : World → Prop)
    (h1 : c.wpIn F n P (fun e _ w' => e = .normal ∧ R w') a w) (h2 : ∀ a' w', R w' → Q .normal a' w') : c.wpIn F n P Q a w :=
  Code.wpIn_mono (fun e a' w' h => by obtain ⟨rfl, hr⟩ := h; exact h2 a' w' hr) h1
/-- A cut behind a part of a body: one state, some worlds. -/
theorem wpIn_mid {F : Fence} {n : Nat} {P : Program} {c : Code} {K : Act → World → Prop} {Q : Exit → Act → World → Prop} {a : Act} {w : World} {A : Act} (R : World → Prop)
    (h1 : c.wpIn F n P (fun e a' w' => e = .normal ∧ a' = A ∧ R w') a w) (h2 : ∀ w', R w' → K A w') : c.wpIn F n P (Exit.then K Q) a w :=
  Code.wpIn_mono (fun e a' w' h => by obtain ⟨rfl, rfl, hr⟩ := h; exact h2 w' hr) h1
theorem search_quot {N y k : Nat} (hy : 0 < y) (hN : N < y * 10000) (h : k ≤ 9999 ∧ (∀ j, j < k → decide (N < y * (j + 1)) = false) ∧ (k < 9999 → decide (N < y * (k + 1)) = true)) : k = N / y := by
  obtain ⟨h1, h2, h3⟩ := h
  have h4 : N < y * (k + 1) := by
    by_cases hk : k < 9999
    · exact of_decide_eq_true (h3 hk)
    · obtain rfl : k = 9999 := by omega
      exact hN
  have h5 : y * k ≤ N := by
    cases k with
    | zero => simp
    | succ j => exact Nat.le_of_not_lt (of_decide_eq_false (h2 j (Nat.lt_succ_self j)))
  exact Nat.le_antisymm ((Nat.le_div_iff_mul_le hy).2 (by rw [Nat.mul_comm]; exact h5)) (Nat.le_of_lt_succ ((Nat.div_lt_iff_lt_mul hy).2 (by rw [Nat.mul_comm]; exact h4)))
theorem digs_len_shift (d R e : Nat) (hd : d < 10000) (hR : (digs 10000 R).length ≤ e) : (digs 10000 (d + 10000 * R)).length ≤ e + 1 := by
  have h3 := (digs_length_le (B := 10000) (by decide) R e).1 hR
  exact (digs_length_le (B := 10000) (by decide) _ (e + 1)).2 (by rw [Nat.pow_succ]; omega)

set_option maxRecDepth 100000 in
set_option maxHeartbeats 4000000 in
theorem numOver_any (x y : Nat) (hy0 : 0 < y) (va vb : Value) (w : World) (ha : Rd encN w va (digs 10000 x)) (hb : Rd encN w vb (digs 10000 y)) (hx : (digs 10000 x).length ≤ 400) (hy : (digs 10000 y).length ≤ 400) (hfa : ∀ k, va.ownBlock = some k → k < w.heap.size) :
    Calls Tryz.prog 81 #[va, vb] w fun e w' => ∃ v1 v2, e = .returned (.tuple #[v1, v2]) ∧ Rd encN w' v1 (digs 10000 (x / y)) ∧ Rd encN w' v2 (digs 10000 (x % y)) ∧ From w.heap.size v1 ∧ From w.heap.size v2 ∧ Below w.heap.size w w' := by
  obtain ⟨aa, ca, rfl, _⟩ := ha.open'
  obtain ⟨ab, cb, rfl, _⟩ := hb.open'
  have Ha := Lib.hid ha
  have Hb := Lib.hid hb
  obtain ⟨n, hn⟩ : ∃ n, (digs 10000 x).length = n := ⟨_, rfl⟩
  obtain ⟨m, hm⟩ : ∃ n, (digs 10000 y).length = n := ⟨_, rfl⟩
  have Hn := Lib.hid hn
  have Hm := Lib.hid hm
  rw [hn] at hx Ha hfa ⊢
  rw [hm] at hy Hb ⊢
  have Hfa := Lib.hid hfa
  clear hn hm ha hb hfa
  refine (callsIn_wide (n := 5)).1 ?_
  refine callsIn_of_wp_marks Tryz.func81 rfl trivial ?_ rfl
  simp only [Tryz.ntmps81, List.size_toArray, List.length_cons, List.length_nil, Nat.reduceAdd, Nat.reduceSub, Array.replicate_succ, Array.replicate_zero, List.push_toArray, List.append_toArray, List.nil_append, List.cons_append]
  have e3 : (((w.alloc (.cells #[.slice ab m cb] 98)).alloc (.cells #[.slice none 0 0] 98)).alloc (.cells #[.slice none 0 0] 98)).heap.size = w.heap.size + 3 := by simp
  gi_wp2_with (first
    | (gi_at_make; refine wpListIn_makeN (enc := encN) (e := 3) (B := w.heap.size + 3) rfl _ _ 98 rfl 0 8 Tryz.underlying98 infoInt rfl .i64 .i64 _ _ n rfl rfl rfl rfl (by omega) (by decide) (by simp) ?_; intro w1 hown1 hB1; rw [e3] at hown1 hB1; simp only [World.size_alloc]
       have hM1 := ((Blk.new w #[.slice ab m cb] 98).alloc (.cells #[.slice none 0 0] 98)).alloc (.cells #[.slice none 0 0] 98) |>.below hB1 (by omega)
       have hQ1 := (Blk.newAt (w.alloc (.cells #[.slice ab m cb] 98)) #[.slice none 0 0] 98 (b := w.heap.size + 1) (by simp)).alloc (.cells #[.slice none 0 0] 98) |>.below hB1 (by omega)
       have hR1 := (Blk.newAt ((w.alloc (.cells #[.slice ab m cb] 98)).alloc (.cells #[.slice none 0 0] 98)) #[.slice none 0 0] 98 (b := w.heap.size + 2) (by simp)) |>.below hB1 (by omega)
       have hBw1 : Below w.heap.size w w1 := ((((Below.refl _ w).alloc (Nat.le_refl _) _).alloc (by simp) _).alloc (by simp; omega) _).trans (hB1.mono (by omega))
       have q1 := hQ1.cell (i := 0) rfl
       have qf1 := hQ1.free 0)
    | (refine ⟨trivial, ?_⟩; gi_at_call 106; refine (callsIn_wide.2 (backward_any _ _ _ _)).mono ?_; rintro e w' ⟨rfl, rfl⟩))
  obtain ⟨W0, hW0⟩ : ∃ W0, (w1.setCell ⟨w.heap.size + 1, 0, none⟩ (.slice (some ⟨w.heap.size + 3, 0, none⟩) n n)) = W0 := ⟨_, rfl⟩
  have hM0 : Blk W0 w.heap.size #[.slice ab m cb] 98 := by subst hW0; exact hM1.setOther (by simp) _
  have hQ0 : Blk W0 (w.heap.size + 1) #[.slice (some ⟨w.heap.size + 3, 0, none⟩) n n] 98 := by subst hW0; exact hQ1.set 0 _
  have hR0 : Blk W0 (w.heap.size + 2) #[.slice none 0 0] 98 := by subst hW0; exact hR1.setOther (by simp) _
  have hB0 : Below w.heap.size w W0 := by subst hW0; exact hBw1.setCell (by simp) _
  have hown0 : OwnL encN 3 W0 (w.heap.size + 3) (.slice (some ⟨w.heap.size + 3, 0, none⟩) n n) (List.replicate n 0) := by subst hW0; exact hown1.setOther (by simp) _
  have hsz0 : W0.heap.size = w1.heap.size := by subst hW0; simp [World.setCell]
  have hlt0 : w.heap.size + 4 ≤ W0.heap.size := by obtain ⟨_, _, hlt, _⟩ := hown0.row; omega
  rw [hW0]; simp only [hsz0.symm]
  clear hW0 hsz0 q1 qf1 hM1 hQ1 hR1 hBw1 hown1 hB1 e3
  clear w1
  have hwsz : ∀ t : Value, (W0.alloc (.cells #[t] 98)).heap.size = W0.heap.size + 1 := fun t => by simp
  simp only [Nat.add_assoc, Nat.reduceAdd]
  refine wp_backward (by omega) W0.heap.size w.heap.size rfl (.slice aa n ca) (digs 10000 x) (by rw [Hn.out]; omega) (by simp) (by simp; have := hB0.size; omega) ((Blk.new W0 #[.slice aa n ca] 98).cell (i := 0) rfl) ((Ha.out.below hB0).below ((Below.refl _ W0).alloc (Nat.le_refl _) _)) Hfa.out rfl
    (fun pre W => OverInv y n W0.heap.size (.slice ab m cb) w pre W)
    (fun _ _ _ => False)
    ?own ?ownx ?start (fun p t => ((t.setIfInBounds 15 (.int .i64 (p.1.1 : Int))).setIfInBounds 16 (.int .i64 (p.1.2 : Int))).setIfInBounds 6 (.int .i64 (p.1.1 : Int)) |>.setIfInBounds 7 (.int .i64 (p.1.2 : Int))) ?assign ?body ?done ?stop
  case own =>
    intro s A B row hs hg hr
    obtain ⟨rv, h⟩ := hs
    refine ⟨rv, h.keptBy hg (fun r e => (hr r e).2) ((Below.refl _ A).grown hg h.2.1.2.2.size (fun k e => ?_))⟩
    have h1 := (hr k e).1
    have h2 := hB0.size
    rw [World.size_alloc] at h1; omega
  case ownx => exact fun _ _ _ _ _ hs _ _ => hs
  case start => exact ⟨_, ⟨⟨hM0.alloc _, hQ0.alloc _, hR0.alloc _, hown0.alloc _, .inl ⟨rfl, digs_zero 10000⟩, From.nil _⟩, ⟨hlt0, by simp, hB0.alloc hB0.size _⟩, KeepsOthers.refl _, KpB.refl _ _ _⟩⟩
  case assign =>
    intro l x W K hK
    simp only [List.setIfInBounds_toArray, List.set_cons_succ, List.set_cons_zero] at hK
    gi_wp2
    exact hK
  case body =>
    rintro l pre p W ⟨rv, hOv⟩ hlen
    simp only [List.setIfInBounds_toArray, List.set_cons_succ, List.set_cons_zero]
    obtain ⟨hRy, hql, hqd⟩ := ovFold_inv (y := y) (n := n) hy0 (fun z hz => digs_lt (by decide) x z hz) pre
    obtain ⟨⟨R, ql⟩, hF⟩ : ∃ F, ovFold y n pre = F := ⟨_, rfl⟩
    rw [hF] at hOv hRy hql hqd
    have HF := Lib.hid hF
    clear hF
    simp only at hOv hRy hql hqd
    rw [Hn.out] at hlen
    have hpd : p.1.2 < 10000 := digs_lt (by decide) x _ (List.mem_of_getElem? p.2)
    have hpi : p.1.1 < n := by have := (List.getElem?_eq_some_iff.1 p.2).1; rw [Hn.out] at this; exact this
    have hlR : (digs 10000 R).length ≤ 400 := by
      have h3 := (digs_length_le (B := 10000) (by decide) y m).1 (by rw [Hm.out]; exact Nat.le_refl _)
      have := (digs_length_le (B := 10000) (by decide) R m).2 (by omega)
      omega
    obtain ⟨av, cv, rfl, _⟩ := hOv.1.2.2.2.2.1.open'
    have HOv := Lib.hid hOv
    have r0 := hOv.1.2.2.1.cell (i := 0) rfl
    have rf0 := hOv.1.2.2.1.free 0
    have rl0 := hOv.1.2.2.1.lt
    have hds : ∀ z ∈ [p.1.2] ++ digs 10000 R, z < 10000 := by
      intro z hz
      rcases List.mem_append.1 hz with h | h
      · simp at h; omega
      · exact digs_lt (by decide) R z h
    have hvs : val 10000 ([p.1.2] ++ digs 10000 R) = p.1.2 + 10000 * R := by
      rw [List.singleton_append, val, val_digs (by decide)]
    have Hds := Lib.hid hds
    have Hvs := Lib.hid hvs
    clear hOv hds hvs
    gi_wp2_with (first
      | (gi_at_builtin; refine wpListIn_appRd (enc := encN) (e := 3) rfl _ _ 98 rfl (.int .i64 0) 8 Tryz.underlying98 infoInt rfl encN_one rfl (OwnL.lit1 W p.1.2 rfl) rfl (HOv.out.alloc _).1.2.2.2.2.1 (by simp; omega) (by decide) (by simp) ?_; intro v' w1 hown1 hB1 hk1
         have hO1 := Lib.hid (HOv.out.grow (((Below.refl _ W).alloc (Nat.le_refl _) _).trans hB1)))
      | (refine ⟨trivial, ?_⟩; gi_at_call 107; refine (CallsIn.inRound l (callsIn_wide.2 (trimmed_any _ Hds.out _ _ hown1.rd))).mono ?_; rintro e w2 ⟨v2, rfl, hr2, hf2, hb2⟩
         have hO2 := Lib.hid (hO1.out.grow hb2)
         have r2 := hO2.out.1.2.2.1.cell (i := 0) rfl
         have rf2 := hO2.out.1.2.2.1.free 0
         have m2 := hO2.out.1.1.cell (i := 0) rfl
         rw [Hvs.out] at hr2
         obtain ⟨a2, c2, rfl, _⟩ := hr2.open'))
    have hO3 := (hO2.out.setR hr2 (hf2 _ (hown1.from.mono HOv.out.2.1.2.1))).alloc (.cells #[.func (.func 108) #[.slice ab m cb] #[]] 122)
    have hby := Blk.newAt (w2.setCell ⟨w.heap.size + 2, 0, none⟩ (.slice a2 (digs 10000 (p.1.2 + 10000 * R)).length c2)) #[.func (.func 108) #[.slice ab m cb] #[]] 122 (b := w2.heap.size) (by simp [World.setCell])
    have hbb : w.heap.size + 4 ≤ w2.heap.size := by have := hO2.out.2.1; omega
    have hlN := digs_len_shift p.1.2 R 400 hpd hlR
    have hNy : p.1.2 + 10000 * R < y * 10000 := by omega
    generalize ((w2.setCell ⟨w.heap.size + 2, 0, none⟩ (.slice a2 (digs 10000 (p.1.2 + 10000 * R)).length c2)).alloc (.cells #[.func (.func 108) #[.slice ab m cb] #[]] 122)) = X2 at *
    obtain ⟨N, hN⟩ : ∃ N, p.1.2 + 10000 * R = N := ⟨_, rfl⟩
    rw [hN] at hO3 hlN hNy
    simp only [hN]
    have HN := Lib.hid hN
    have HO := Lib.hid hO3
    have hrl := Lib.hid hO3.2.1.2.1
    have Hby := Lib.hid hby
    obtain ⟨bb, hbbe⟩ : ∃ b, w2.heap.size = b := ⟨_, rfl⟩
    rw [hbbe] at hby Hby hbb
    simp only [hbbe]
    have hbl := hby.lt
    have qd := hO3.drew.1.2.1.cell (i := 0) rfl
    have hlenq : p.1.1 < ql.length := by omega
    clear hO3 hN hby hbbe r0 rf0 rl0 r2 rf2 m2 hO1 hO2 hr2 hf2 hown1 hB1 hk1 hb2
    have hse := Lib.hid (search_any 109 (.pointer (some ⟨bb, 0, none⟩)) (.pointer (some ⟨w.heap.size + 2, 0, none⟩)) (enters_of Tryz.func109 (by kernel_rfl) rfl) 9999 (fun i => decide (N < y * (i + 1))) X2.drew (by decide)
           (fun i W hi hW => over1_any y N i (.slice ab m cb) _ bb (w.heap.size + 2) W (Hb.out.below (HO.out.drew.grow hW).2.1.2.2) (HO.out.drew.grow hW).1.2.2.2.2.1 ((Blk.below (w := X2.drew) Hby.out hW hbl).cell rfl) (Nat.lt_of_lt_of_le hbl hW.size) ((HO.out.drew.grow hW).1.2.2.1.cell rfl) (HO.out.drew.grow hW).1.2.2.1.lt hi (by rw [Hm.out]; omega) (by omega))
           (fun i j hij h => by simp only [decide_eq_true_eq] at h ⊢; exact Nat.lt_of_lt_of_le h (Nat.mul_le_mul_left _ (by omega))))
    have hmx : Tryz.prog.follows .mixedOrders = true := by kernel_rfl
    obtain ⟨k0, hk0⟩ : ∃ k, N / y = k := ⟨_, rfl⟩
    have Hk0 := Lib.hid hk0
    clear hk0
    apply wpIn_mid (fun W' => ∃ w3, Below X2.drew.heap.size X2.drew w3 ∧ W' = w3.setCell ⟨w.heap.size + 3, p.1.1, none⟩ (.int .i64 (k0 : Int)))
    · gi_region_with_o (first
      | (refine ⟨trivial, ?_⟩; gi_at_call 110
         refine (CallsIn.inRound l (callsIn_wide.2 hse.out)).mono ?_
         rintro e w3 ⟨k, rfl, hk, hb3⟩
         obtain rfl : k0 = k := Hk0.out.symm.trans (search_quot hy0 hNy hk).symm
         have q3 := (HO.out.drew.grow hb3).1.2.1.cell (i := 0) rfl
         have e3 := (HO.out.drew.grow hb3).1.2.2.2.1.cell p.1.1 hlenq
         have f3 := (HO.out.drew.grow hb3).1.2.2.2.1.free p.1.1))
      all_goals exact ⟨rfl, rfl, _, hb3, rfl⟩
    · rintro w' ⟨w3, hb3, rfl⟩
      have HO4 := Lib.hid (((HO.out.drew.grow hb3).setQ p.1.1 k0 hlenq (u := .int .i64 (k0 : Int)) rfl).drew)
      have HB4 := Lib.hid ((Blk.below (w := X2.drew) Hby.out hb3 hbl).setOther (a := ⟨w.heap.size + 3, p.1.1, none⟩) (by simp; omega) (.int .i64 (k0 : Int)))
      have hk9 : k0 < 10000 := by rw [← Hk0.out]; exact (Nat.div_lt_iff_lt_mul hy0).2 (by rw [Nat.mul_comm]; exact hNy)
      have hle : y * k0 ≤ N := by rw [← Hk0.out]; exact Nat.mul_div_le N y
      have hlp : (digs 10000 (y * k0)).length ≤ 401 := by
        have h3 := (digs_length_le (B := 10000) (by decide) N 401).1 hlN
        exact (digs_length_le (B := 10000) (by decide) _ 401).2 (by omega)
      obtain ⟨X4, hX4⟩ : ∃ X, w3.setCell ⟨w.heap.size + 3, p.1.1, none⟩ (.int .i64 (k0 : Int)) = X := ⟨_, rfl⟩
      rw [hX4] at HO4 HB4
      rw [hX4]
      clear hX4 hb3 qd hse
      have r4 := HO4.out.1.2.2.1.cell (i := 0) rfl
      have q4 := HO4.out.1.2.1.cell (i := 0) rfl
      have b4 : X4.drew.cell? ⟨bb, 0, none⟩ = _ := HB4.out.cell (i := 0) rfl
      have e4 := HO4.out.1.2.2.2.1.cell p.1.1 (by simpa using hlenq)
      rw [List.getElem_set_self] at e4
      have hBy := Lib.hid (numBy_any y k0 hk9 _ X4.drew (Hb.out.below HO4.out.2.1.2.2) (by rw [Hm.out]; omega))
      have hMi : Hid (∀ w5 v5, Below X4.drew.heap.size X4.drew w5 → Rd encN w5 v5 (digs 10000 (y * k0)) → Calls Tryz.prog 88 #[.slice a2 (digs 10000 N).length c2, v5] w5 fun e w6 => ∃ a6 n6 c6, e = .returned (.slice a6 n6 c6) ∧ (Rd encN w6 (.slice a6 n6 c6) (digs 10000 (N - y * k0)) ∧ From w5.heap.size (.slice a6 n6 c6) ∧ Below w5.heap.size w5 w6) ∧ w6.cell? ⟨w.heap.size + 2, 0, none⟩ = some (.slice a2 (digs 10000 N).length c2) ∧ w6.frozen? ⟨w.heap.size + 2, 0, none⟩ = false) := by
        refine Lib.hid ?_
        intro w5 v5 hb5 hr5
        refine (numMinus_any N (y * k0) hle _ _ _ (HO4.out.grow hb5).1.2.2.2.2.1 hr5 (by omega) (by omega)).mono ?_
        rintro e w6 ⟨v6, rfl, hr6, hf6, hb6⟩
        have HO6 := ((HO4.out.grow hb5).grow hb6)
        obtain ⟨a6, c6, rfl, _⟩ := hr6.open'
        exact ⟨a6, _, c6, rfl, ⟨hr6, hf6, hb6⟩, HO6.1.2.2.1.cell (i := 0) rfl, HO6.1.2.2.1.free 0⟩
      have hR5 : Hid (∀ w5, Below X4.drew.heap.size X4.drew w5 → w5.cell? ⟨w.heap.size + 2, 0, none⟩ = some (.slice a2 (digs 10000 N).length c2)) := Lib.hid fun w5 hb5 => (HO4.out.grow hb5).1.2.2.1.cell (i := 0) rfl
      have hEnd : Hid (∀ w5 w6 v6, Below X4.drew.heap.size X4.drew w5 → (Rd encN w6 v6 (digs 10000 (N - y * k0)) ∧ From w5.heap.size v6 ∧ Below w5.heap.size w5 w6) → OvAt w W0.heap.size n (.slice ab m cb) W (w6.setCell ⟨w.heap.size + 2, 0, none⟩ v6) v6 (ql.set p.1.1 k0) (N - y * k0)) := by
        refine Lib.hid ?_
        rintro w5 w6 v6 hb5 ⟨hr6, hf6, hb6⟩
        exact ((HO4.out.grow hb5).grow hb6).setR hr6 (hf6.mono (Nat.le_trans HO4.out.2.1.2.1 hb5.size))
      have hS5 : Hid (∀ w5, Below X4.drew.heap.size X4.drew w5 → w5.cell? ⟨w.heap.size + 1, 0, none⟩ = some (.slice (some ⟨w.heap.size + 3, 0, none⟩) n n) ∧ w5.cell? ⟨bb, 0, none⟩ = some (.func (.func 108) #[.slice ab m cb] #[]) ∧ w5.cell? ⟨w.heap.size + 3, p.1.1, none⟩ = some (.int .i64 (k0 : Int))) := by
        refine Lib.hid ?_
        intro w5 hb5
        have e5 := (HO4.out.grow hb5).1.2.2.2.1.cell p.1.1 (by simpa using hlenq)
        rw [List.getElem_set_self] at e5
        exact ⟨(HO4.out.grow hb5).1.2.1.cell rfl, (Blk.below (w := X4.drew) HB4.out hb5 (Blk.lt HB4.out)).cell rfl, e5⟩
      have hS6 : Hid (∀ w5 w6 v6, Below X4.drew.heap.size X4.drew w5 → (Rd encN w6 v6 (digs 10000 (N - y * k0)) ∧ From w5.heap.size v6 ∧ Below w5.heap.size w5 w6) → (w6.setCell ⟨w.heap.size + 2, 0, none⟩ v6).cell? ⟨w.heap.size + 1, 0, none⟩ = some (.slice (some ⟨w.heap.size + 3, 0, none⟩) n n) ∧ (w6.setCell ⟨w.heap.size + 2, 0, none⟩ v6).cell? ⟨bb, 0, none⟩ = some (.func (.func 108) #[.slice ab m cb] #[]) ∧ (w6.setCell ⟨w.heap.size + 2, 0, none⟩ v6).cell? ⟨w.heap.size + 3, p.1.1, none⟩ = some (.int .i64 (k0 : Int))) := by
        refine Lib.hid ?_
        intro w5 w6 v6 hb5 h6
        have hO := hEnd.out w5 w6 v6 hb5 h6
        have e6 := hO.1.2.2.2.1.cell p.1.1 (by simpa using hlenq)
        rw [List.getElem_set_self] at e6
        exact ⟨hO.1.2.1.cell rfl, ((Blk.below (w := X4.drew) HB4.out (hb5.trans (h6.2.2.mono hb5.size)) (Blk.lt HB4.out)).setOther (a := ⟨w.heap.size + 2, 0, none⟩) (by simp; omega) v6).cell rfl, e6⟩
      have hRes : (N % y, ql.set p.1.1 (N / y)) = (N - y * k0, ql.set p.1.1 k0) := by rw [Nat.mod_eq_sub, Hk0.out]
      have hFin : Hid (ovFold y n (pre ++ [p]) = (N - y * k0, ql.set p.1.1 k0)) := by
        refine Lib.hid ?_
        rw [ovFold_snoc, HF.out]
        simp only [ovStep, HN.out]
        exact hRes
      clear hRes hlN hlp hle hk9 hNy hbb hbl hlR hpd hRy hqd hlt0 hwsz HO4 HB4 Hby HO hrl hlen Hds Hvs HF HN Hk0 hQ0 hR0 hM0 hown0 hB0
      gi_wp2
      refine wpIn_end (fun W' => ∃ v6, OvAt w W0.heap.size n (.slice ab m cb) W W' v6 (ql.set p.1.1 k0) (N - y * k0)) ?_ ?_
      · refine wpIn_region_round (fun w5 => w5.cell? ⟨w.heap.size + 1, 0, none⟩ = some (.slice (some ⟨w.heap.size + 3, 0, none⟩) n n) ∧ w5.cell? ⟨bb, 0, none⟩ = some (.func (.func 108) #[.slice ab m cb] #[]) ∧ w5.cell? ⟨w.heap.size + 3, p.1.1, none⟩ = some (.int .i64 (k0 : Int))) hmx (by kernel_rfl) (fun _ _ h => by cases h.1) ?_
        have hS := hS5.out X4.drew (Below.refl _ _)
        clear q4 b4 e4
        refine wpAnyH_take (i := 1) (v := .func (.func 108) #[.slice ab m cb] #[]) rfl (by kernel_rfl) (by kernel_rfl) (by kernel_rfl) (fun _ _ _ h => h) (Or.inl ⟨by rfl, by rintro W5 ⟨s1, s2, s3⟩; go_simp⟩) hS ?_
        refine wpAnyH_take (i := 2) (v := .slice (some ⟨w.heap.size + 3, 0, none⟩) n n) rfl (by kernel_rfl) (by kernel_rfl) (by kernel_rfl) (fun _ _ _ h => h) (Or.inl ⟨by rfl, by rintro W5 ⟨s1, s2, s3⟩; go_simp⟩) hS ?_
        refine wpAnyH_take (i := 3) (v := .int .i64 (p.1.1 : Int)) rfl (by kernel_rfl) (by kernel_rfl) (by kernel_rfl) (fun _ _ _ h => h) (Or.inl ⟨by rfl, by rintro W5 ⟨s1, s2, s3⟩; go_simp⟩) hS ?_
        refine wpAnyH_take (i := 4) (v := .pointer (some ⟨w.heap.size + 3, p.1.1, none⟩)) rfl (by kernel_rfl) (by kernel_rfl) (by kernel_rfl) (fun _ _ _ h => h) (Or.inl ⟨by rfl, by rintro W5 ⟨s1, s2, s3⟩; go_simp⟩) hS ?_
        refine wpAnyH_take (i := 5) (v := .int .i64 (k0 : Int)) rfl (by kernel_rfl) (by kernel_rfl) (by kernel_rfl) (fun _ _ _ h => h) (Or.inl ⟨by rfl, by rintro W5 ⟨s1, s2, s3⟩; go_simp⟩) hS ?_
        refine wpAnyH_ready (rs := [0, 6]) (by kernel_rfl) (by simp) (AllReadyH.cons rfl (fun K hK => ?_) (AllReadyH.cons rfl (fun K hK => ?_) AllReadyH.nil))
        · go_simp
          refine hK _ _ hS (fun _ => ?_); clear hK K
          refine wpAnyH_ready (rs := [6]) (by kernel_rfl) (by simp) (AllReadyH.cons rfl (fun K hK => ?_) AllReadyH.nil)
          go_simp
          (with_reducible refine (hBy.out).mono ?_); rintro e w5 ⟨v5, rfl, hr5, hf5, hb5⟩
          have hS := hS5.out w5 hb5
          have r5 := hR5.out w5 hb5
          refine hK _ _ hS (fun _ => ?_); clear hK K
          refine wpAnyH_ready (rs := [7]) (by kernel_rfl) (by simp) (AllReadyH.cons rfl (fun K hK => ?_) AllReadyH.nil)
          go_simp
          (with_reducible refine (hMi.out _ _ hb5 hr5).mono ?_); rintro e w6 ⟨a6, n6, c6, rfl, h6, r6, f6⟩
          have hS := hS5.out w6 (hb5.trans (h6.2.2.mono hb5.size))
          refine hK _ _ hS (fun _ => ?_); clear hK K
          refine wpAnyH_ready (rs := [8]) (by kernel_rfl) (by simp) (AllReadyH.cons rfl (fun K hK => ?_) AllReadyH.nil)
          go_simp
          refine hK _ _ (hS6.out _ _ _ hb5 h6) (fun _ => ?_); clear hK K
          refine wpAnyH_done (by kernel_rfl) ?_ _
          exact ⟨rfl, _, hEnd.out _ _ _ hb5 h6⟩
        · go_simp
          (with_reducible refine (hBy.out).mono ?_); rintro e w5 ⟨v5, rfl, hr5, hf5, hb5⟩
          have hS := hS5.out w5 hb5
          have r5 := hR5.out w5 hb5
          refine hK _ _ hS (fun _ => ?_); clear hK K
          refine wpAnyH_ready (rs := [0]) (by kernel_rfl) (by simp) (AllReadyH.cons rfl (fun K hK => ?_) AllReadyH.nil)
          go_simp
          refine hK _ _ hS (fun _ => ?_); clear hK K
          refine wpAnyH_ready (rs := [7]) (by kernel_rfl) (by simp) (AllReadyH.cons rfl (fun K hK => ?_) AllReadyH.nil)
          go_simp
          (with_reducible refine (hMi.out _ _ hb5 hr5).mono ?_); rintro e w6 ⟨a6, n6, c6, rfl, h6, r6, f6⟩
          have hS := hS5.out w6 (hb5.trans (h6.2.2.mono hb5.size))
          refine hK _ _ hS (fun _ => ?_); clear hK K
          refine wpAnyH_ready (rs := [8]) (by kernel_rfl) (by simp) (AllReadyH.cons rfl (fun K hK => ?_) AllReadyH.nil)
          go_simp
          refine hK _ _ (hS6.out _ _ _ hb5 h6) (fun _ => ?_); clear hK K
          refine wpAnyH_done (by kernel_rfl) ?_ _
          exact ⟨rfl, _, hEnd.out _ _ _ hb5 h6⟩
      · rintro a' w' ⟨v6, hO7⟩
        gi_wp2
        refine ⟨hO7.2.2.1.from _, hO7.2.2.2, v6, ?_⟩
        rw [hFin.out]
        exact hO7.start
  case done =>
    rintro D ys W hD hys ⟨rv, hOv⟩ hK
    have hbw := bw_over (x := x) hy0 (digs 10000 x).length (Nat.le_refl _)
    rw [← hys, Nat.sub_self] at hbw
    rw [Hn.out] at hbw
    obtain ⟨hq, hr⟩ := DivInv.done (R := (ovFold y n ys).1) (q := (ovFold y n ys).2) (by decide) hbw
    obtain ⟨_, hql, hqd⟩ := ovFold_inv (y := y) (n := n) hy0 (fun z hz => digs_lt (by decide) x z hz) ys
    generalize ovFold y n ys = F at *
    obtain ⟨R, ql⟩ := F
    simp only at hOv hq hr hql hqd
    subst hr
    have Hq := Lib.hid hq
    have Hqd := Lib.hid hqd
    have HK := Lib.hid hK
    have HOv := Lib.hid hOv
    obtain ⟨ra, rc, rfl, _⟩ := hOv.1.2.2.2.2.1.open'
    have q9 := hOv.drew.1.2.1.cell (i := 0) rfl
    have r9 := hOv.drew.1.2.2.1.cell (i := 0) rfl
    clear hq hqd hK hOv hbw hys
    have hmx : Tryz.prog.follows .mixedOrders = true := by kernel_rfl
    gi_wp2
    gi_region_with_o (refine ⟨trivial, ?_⟩; gi_at_call 107; refine (callsIn_wide.2 (trimmed_any ql Hqd.out _ _ HOv.out.drew.1.2.2.2.1.rd)).mono ?_
                      rintro e w2 ⟨v2, rfl, hr2, hf2, hb2⟩
                      have HO2 := Lib.hid (HOv.out.drew.grow hb2)
                      rw [Hq.out] at hr2
                      have q2 := HO2.out.1.2.1.cell (i := 0) rfl
                      have qf2 := HO2.out.1.2.1.free 0
                      have r2 := HO2.out.1.2.2.1.cell (i := 0) rfl
                      have rf2 := HO2.out.1.2.2.1.free 0
                      obtain ⟨qa, qc, rfl, _⟩ := hr2.open')
    all_goals gi_wp2
    all_goals
      have hQ8 := (HO2.out.1.2.1.set 0 (.slice qa (digs 10000 (x / y)).length qc)).setOther (a := ⟨w.heap.size + 2, 0, none⟩) (by simp) (.slice ra (digs 10000 (x % y)).length rc)
      have hR8 := (HO2.out.1.2.2.1.setOther (a := ⟨w.heap.size + 1, 0, none⟩) (by simp) (.slice qa (digs 10000 (x / y)).length qc)).set 0 (.slice ra (digs 10000 (x % y)).length rc)
      have hfq : From (w.heap.size + 3) (.slice qa (digs 10000 (x / y)).length qc) := hf2 _ (fun k hk => by cases hk; exact Nat.le_refl _)
      have hfr := HO2.out.1.2.2.2.2.2
      have hZ := HO2.out.2.1
      have hq8 := (hr2.setCell (a := ⟨w.heap.size + 1, 0, none⟩) hfq (by simp) (.slice qa (digs 10000 (x / y)).length qc)).setCell (a := ⟨w.heap.size + 2, 0, none⟩) hfq (by simp) (.slice ra (digs 10000 (x % y)).length rc)
      have hr8 := (HO2.out.1.2.2.2.2.1.setCell (a := ⟨w.heap.size + 1, 0, none⟩) hfr (by simp; omega) (.slice qa (digs 10000 (x / y)).length qc)).setCell (a := ⟨w.heap.size + 2, 0, none⟩) hfr (by simp; omega) (.slice ra (digs 10000 (x % y)).length rc)
      have hB8 : Below w.heap.size w ((w2.setCell ⟨w.heap.size + 1, 0, none⟩ (.slice qa (digs 10000 (x / y)).length qc)).setCell ⟨w.heap.size + 2, 0, none⟩ (.slice ra (digs 10000 (x % y)).length rc)) := (hZ.2.2.setCell (by simp) _).setCell (by simp) _
      have hDW : w.heap.size + 4 ≤ D := by rw [World.size_alloc] at hD; omega
      have hK8 : ((w2.setCell ⟨w.heap.size + 1, 0, none⟩ (.slice qa (digs 10000 (x / y)).length qc)).setCell ⟨w.heap.size + 2, 0, none⟩ (.slice ra (digs 10000 (x % y)).length rc)).heap[D]? = some (.deferred (some [])) := by
        rw [Below.heap_setCell _ _ _ _ (by simp; omega), Below.heap_setCell _ _ _ _ (by simp; omega)]
        exact (hb2.block D (Array.getElem?_eq_some_iff.1 HK.out).1).trans HK.out
      generalize ((w2.setCell ⟨w.heap.size + 1, 0, none⟩ (.slice qa (digs 10000 (x / y)).length qc)).setCell ⟨w.heap.size + 2, 0, none⟩ (.slice ra (digs 10000 (x % y)).length rc)) = W9 at *
      refine ⟨by simp, .inl ⟨_, _, rfl, run_takeDeferred hK8, ?_⟩⟩
      have hg := grownBy_putObj' W9 D (.deferred none)
      have hgr : ∀ r, some D = some r → ∃ o : Obj, W9.heap[r]? = some o ∧ o.isCells = false := fun r e => by cases e; exact ⟨_, hK8, rfl⟩
      have c1 : (W9.putObj D (.deferred none)).cell? ⟨w.heap.size + 1, 0, none⟩ = some (.slice qa (digs 10000 (x / y)).length qc) := (hQ8.kept hg hgr).cell rfl
      have c2 : (W9.putObj D (.deferred none)).cell? ⟨w.heap.size + 2, 0, none⟩ = some (.slice ra (digs 10000 (x % y)).length rc) := (hR8.kept hg hgr).cell rfl
      refine ⟨.tuple #[.slice qa (digs 10000 (x / y)).length qc, .slice ra (digs 10000 (x % y)).length rc], ?_, _, _, rfl, rd_kept hq8 hg hgr, rd_kept hr8 hg hgr, hfq.mono (by omega), hfr.mono (by omega), hB8.trans (belowK_b (w := w) (Nat.le_refl _) W9 D _ _ (by omega) hK8 rfl rfl)⟩
      simp [results, Tryz.f81, go_sem, c1, c2]
  case stop => exact fun _ _ _ _ _ _ hx _ => hx.elim
end Go.Proofs.YtgeoidnleagloaaGreatDoor
