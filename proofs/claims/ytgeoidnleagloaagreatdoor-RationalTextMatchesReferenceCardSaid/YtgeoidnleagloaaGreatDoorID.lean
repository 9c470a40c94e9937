/- Walks of package integer: comparing absolute values. -/
import Derived.Test.YtgeoidnleagloaaGreatDoorIC
import Derived.Test.YtgeoidnleagloaaGreatDoorIB
set_option linter.unusedVariables false
set_option linter.unusedSimpArgs false
namespace Go.Proofs.YtgeoidnleagloaaGreatDoor
open Go.RowKit Yk
attribute [local go_sem] Oper.semAt_some

theorem cmpCompare_any (x y : Int) (w : World) : Calls Tryz.prog 105 #[.int .i64 x, .int .i64 y] w fun e w' => e = .returned (.int .i64 (cmpI x y)) ∧ w = w' := by
  refine (Tryz.cmp_Compare_int x y w).mono ?_
  rintro e w' ⟨rfl, rfl⟩
  exact ⟨rfl, rfl⟩

set_option maxRecDepth 100000 in
set_option maxHeartbeats 2000000 in
theorem compare_same (x y : Nat) (aa ab : Option Addr) (ca cb : Nat) (w : World) (ha : Rd encN w (.slice aa (digs 10000 x).length ca) (digs 10000 x)) (hb : Rd encN w (.slice ab (digs 10000 y).length cb) (digs 10000 y)) (hlen : (digs 10000 x).length = (digs 10000 y).length) (hx : (digs 10000 x).length ≤ 1000) :
    Calls Tryz.prog 80 #[.slice aa (digs 10000 x).length ca, .slice ab (digs 10000 y).length cb] w fun e w' => e = .returned (.int .i64 (cmpN x y)) ∧ Below w.heap.size w w' := by
  have hsa := hb.addr
  obtain ⟨n, hn⟩ : ∃ n, (digs 10000 x).length = n := ⟨_, rfl⟩
  have Hn := Lib.hid hn
  have Hm := Lib.hid (hlen.symm.trans hn)
  have Ha := Lib.hid ha
  have Hb := Lib.hid hb
  rw [← hlen]
  rw [hn] at hx ⊢
  have hc : ((n : Int) != n) = false := by simp
  clear hlen hn ha hb hsa
  refine (callsIn_wide (n := 5)).1 ?_
  refine callsIn_of_wp_marks Tryz.func80 rfl trivial ?_ rfl
  simp only [Tryz.ntmps80, List.size_toArray, List.length_cons, List.length_nil, Nat.reduceAdd, Nat.reduceSub, Array.replicate_succ, Array.replicate_zero, List.push_toArray, List.append_toArray, List.nil_append, List.cons_append]
  gi_wp2_with (refine ⟨trivial, ?_⟩; gi_at_call 106; refine (callsIn_wide.2 (backward_any _ _ _ _)).mono ?_; rintro e w' ⟨rfl, rfl⟩)
  have hM0 : Blk (((w.alloc (.cells #[.slice ab n cb] 98)).alloc (.cells #[.int .i64 0] 3)).alloc (.cells #[.slice aa n ca] 98)) w.heap.size #[.slice ab n cb] 98 := ((Blk.new w _ _).alloc _).alloc _
  have hR0 : Blk (((w.alloc (.cells #[.slice ab n cb] 98)).alloc (.cells #[.int .i64 0] 3)).alloc (.cells #[.slice aa n ca] 98)) (w.heap.size + 1) #[.int .i64 0] 3 := (Blk.newAt _ _ _ (by simp)).alloc _
  have hS0 : Blk (((w.alloc (.cells #[.slice ab n cb] 98)).alloc (.cells #[.int .i64 0] 3)).alloc (.cells #[.slice aa n ca] 98)) (w.heap.size + 1 + 1) #[.slice aa n ca] 98 := Blk.newAt _ _ _ (by simp)
  have hB0 : Below w.heap.size w (((w.alloc (.cells #[.slice ab n cb] 98)).alloc (.cells #[.int .i64 0] 3)).alloc (.cells #[.slice aa n ca] 98)) := (((Below.refl _ w).alloc (Nat.le_refl _) _).alloc (by simp) _).alloc (by simp; omega) _
  have hsz : w.heap.size + 1 + 1 + 1 = (((w.alloc (.cells #[.slice ab n cb] 98)).alloc (.cells #[.int .i64 0] 3)).alloc (.cells #[.slice aa n ca] 98)).heap.size := by simp
  generalize (((w.alloc (.cells #[.slice ab n cb] 98)).alloc (.cells #[.int .i64 0] 3)).alloc (.cells #[.slice aa n ca] 98)) = W0 at *
  refine wp_backward (by omega) (w.heap.size + 1 + 1) w.heap.size rfl (.slice aa n ca) (digs 10000 x) (by rw [Hn.out]; omega) hS0.lt (by omega) (hS0.cell rfl) ?rd ?fr rfl
    (fun pre W => ((∀ p ∈ pre, (digs 10000 y)[p.1.1]? = some p.1.2) ∧ Blk W w.heap.size #[.slice ab n cb] 98 ∧ Blk W (w.heap.size + 1) #[.int .i64 0] 3) ∧ Below w.heap.size w W)
    (fun c pre W => (c = .ret ∧ ∃ (ini : List (Place (digs 10000 x))) (last : Place (digs 10000 x)) (d : Nat), pre = ini ++ [last] ∧ (∀ p ∈ ini, (digs 10000 y)[p.1.1]? = some p.1.2) ∧ (digs 10000 y)[last.1.1]? = some d ∧ last.1.2 ≠ d ∧ Blk W (w.heap.size + 1) #[.int .i64 (cmpI (last.1.2 : Int) (d : Int))] 3) ∧ Below w.heap.size w W)
    ?own ?ownx ?start (fun p t => (((t.setIfInBounds 19 (.int .i64 (p.1.1 : Int))).setIfInBounds 20 (.int .i64 (p.1.2 : Int))).setIfInBounds 5 (.int .i64 (p.1.1 : Int))).setIfInBounds 6 (.int .i64 (p.1.2 : Int))) ?assign ?body ?done ?stop
  case rd => have := Ha.out.below hB0; rwa [Hn.out] at this
  case fr =>
    intro k hk
    have := Ha.out
    rw [Hn.out] at this
    rcases this with ⟨h, _⟩ | ⟨b, off, cap, h, hb, _⟩
    · cases h; cases hk
    · cases h; cases hk; exact hb
  case own => exact OwnFrom.and (Own.from (fun s A B row hs hg hr => ⟨hs.1, hs.2.1.kept hg hr, hs.2.2.kept hg hr⟩) _) (ownFrom_below (Nat.le_refl _) (by omega))
  case ownx => exact fun c => OwnFrom.and (Own.from (fun s A B row hs hg hr => by obtain ⟨e, ini, last, d, h1, h2, h3, h4, h5⟩ := hs; exact ⟨e, ini, last, d, h1, h2, h3, h4, h5.kept hg hr⟩) _) (ownFrom_below (Nat.le_refl _) (by omega))
  case start => exact ⟨⟨by simp, hM0, hR0⟩, hB0⟩
  case assign =>
    intro l x W K hK
    simp only [List.setIfInBounds_toArray, List.set_cons_succ, List.set_cons_zero] at hK
    gi_wp2
    exact hK
  case body =>
    rintro l pre p W ⟨⟨hpre, hM, hR⟩, hB⟩ _
    simp only [List.setIfInBounds_toArray, List.set_cons_succ, List.set_cons_zero]
    have hin := (List.getElem?_eq_some_iff.1 p.2).1
    rw [Hn.out] at hin
    obtain ⟨bb, ob, rfl, hbb, hc2⟩ : ∃ b off, ab = some ⟨b, off, none⟩ ∧ b < w.heap.size ∧ w.cell? ⟨b, off + p.1.1, none⟩ = some (encN ((digs 10000 y)[p.1.1]'(by rw [Hm.out]; exact hin))) := by
      obtain ⟨a', c', e, _, _, hcell⟩ := Hb.out.open'
      injection e with e1 e2 e3
      subst e1
      exact hcell p.1.1 (by rw [Hm.out]; exact hin)
    obtain ⟨d, hd⟩ : ∃ d, (digs 10000 y)[p.1.1]'(by rw [Hm.out]; exact hin) = d := ⟨_, rfl⟩
    have Hd := Lib.hid (show (digs 10000 y)[p.1.1]? = some d by rw [List.getElem?_eq_getElem (by rw [Hm.out]; exact hin), hd])
    have k2 := (hB.cell (p := ⟨bb, ob + p.1.1, none⟩) hbb).trans hc2
    rw [hd] at k2
    have m0 : W.cell? ⟨w.heap.size, 0, none⟩ = some (.slice (some ⟨bb, ob, none⟩) n cb) := hM.cell rfl
    have r0 : W.cell? ⟨w.heap.size + 1, 0, none⟩ = some (.int .i64 0) := hR.cell rfl
    have rf := hR.free 0
    have Hpre := Lib.hid hpre
    clear hpre hc2 hd
    by_cases hne : p.1.2 = d
    · have c1 : ((p.1.2 : Int) != (d : Int)) = false := by simp [hne]
      gi_wp2
      exact ⟨KeepsFrom.refl _ _, KpB.refl _ _ _, ⟨fun q hq => (List.mem_append.1 hq).elim (Hpre.out q) (fun e => by simp at e; subst e; rw [Hd.out, hne]), hM, hR⟩, hB⟩
    · have c1 : ((p.1.2 : Int) != (d : Int)) = true := by rw [bne_iff_ne]; omega
      gi_wp2_with (refine ⟨trivial, ?_⟩; gi_at_call 105; refine (CallsIn.inRound l (callsIn_wide.2 (cmpCompare_any _ _ _))).mono ?_; rintro e w' ⟨rfl, rfl⟩)
      exact ⟨(KeepsOthers.setCell _ _ _).from _, ⟨rfl, pre, p, d, rfl, Hpre.out, Hd.out, hne, hR.set 0 _⟩, hB.setCell (by simp) _⟩
  case done =>
    rintro D ys W hD hys ⟨⟨hall, hM, hR⟩, hB⟩ hK
    have r0 : W.cell? ⟨w.heap.size + 1, 0, none⟩ = some (.int .i64 0) := hR.cell rfl
    have rf := hR.free 0
    have hxy : x = y := by
      have h5 := bw_drop (l := digs 10000 x) (m := digs 10000 y) (by rw [Hn.out, Hm.out]) (Nat.le_refl _) hys hall
      rw [Nat.sub_self, List.drop_zero, List.drop_zero] at h5
      exact digs_inj (by decide) h5
    have Hxy := Lib.hid hxy
    clear hxy hys hall
    gi_wp2
    have hK' := (KeepsOthers.setCell W ⟨w.heap.size + 1, 0, none⟩ (.int .i64 0)).same D _ hK rfl
    refine ⟨by simp, .inl ⟨_, _, rfl, run_takeDeferred hK', ?_⟩⟩
    have hR2 := (hR.set 0 (.int .i64 0)).kept (grownBy_putObj' _ D (.deferred none)) (fun r e => by cases e; exact ⟨_, hK', rfl⟩)
    have hc5 : ((W.setCell ⟨w.heap.size + 1, 0, none⟩ (.int .i64 0)).putObj D (.deferred none)).cell? ⟨w.heap.size + 1, 0, none⟩ = some (.int .i64 0) := hR2.cell rfl
    refine ⟨.int .i64 0, ?_, ret_i64 (cmpN_eq Hxy.out).symm, (hB.setCell (by simp) _).trans (belowK_b (w := w) (Nat.le_refl _) _ D _ _ (by omega) hK' rfl rfl)⟩
    simp [results, Tryz.f80, go_sem, hc5]
  case stop =>
    rintro D c pre W hD ⟨k, hk, hpre⟩ ⟨⟨rfl, ini, last, d, rfl, hini, hd, hne, hR⟩, hB⟩ hK
    have hcmp : cmpN x y = cmpI (last.1.2 : Int) (d : Int) := by
      obtain ⟨j, rfl, e1, e2⟩ := bw_last hpre
      have h5 := bw_drop (by rw [Hn.out, Hm.out]) (by omega) e1 hini
      have hlx := last.2
      rw [e2] at hlx hd
      have hj1 : (digs 10000 x).length - 1 - j < (digs 10000 x).length := by omega
      have hj2 : (digs 10000 x).length - 1 - j < (digs 10000 y).length := by rw [Hm.out, Hn.out] at *; omega
      have ex := (List.getElem?_eq_some_iff.1 hlx).2
      have ey := (List.getElem?_eq_some_iff.1 hd).2
      have e3 : (digs 10000 x).length - j = (digs 10000 x).length - 1 - j + 1 := by omega
      rw [e3] at h5
      rw [cmp_sgn_pos]
      by_cases hlt : last.1.2 < d
      · rw [cmpN_lt hlt, cmpN_lt (digs_less (by decide) hj1 hj2 h5 (by rw [ex, ey]; exact hlt))]
      · rw [cmpN_gt (show d < last.1.2 by omega), cmpN_gt (digs_less (by decide) hj2 hj1 h5.symm (by rw [ex, ey]; omega))]
    have Hcmp := Lib.hid hcmp
    clear hcmp
    gi_wp2
    refine ⟨by simp, .inl ⟨_, _, rfl, run_takeDeferred hK, ?_⟩⟩
    have hR2 := hR.kept (grownBy_putObj' _ D (.deferred none)) (fun r e => by cases e; exact ⟨_, hK, rfl⟩)
    have hc5 : (W.putObj D (.deferred none)).cell? ⟨w.heap.size + 1, 0, none⟩ = some (.int .i64 (cmpI (last.1.2 : Int) (d : Int))) := hR2.cell rfl
    refine ⟨.int .i64 (cmpI (last.1.2 : Int) (d : Int)), ?_, ret_i64 Hcmp.out.symm, hB.trans (belowK_b (w := w) (Nat.le_refl _) _ D _ _ (by omega) hK rfl rfl)⟩
    simp [results, Tryz.f80, go_sem, hc5]

set_option maxRecDepth 100000 in
theorem compare_any (x y : Nat) (va vb : Value) (w : World) (ha : Rd encN w va (digs 10000 x)) (hb : Rd encN w vb (digs 10000 y)) (hx : (digs 10000 x).length ≤ 1000) :
    Calls Tryz.prog 80 #[va, vb] w fun e w' => e = .returned (.int .i64 (cmpN x y)) ∧ Below w.heap.size w w' := by
  obtain ⟨aa, ca, rfl, _⟩ := ha.open'
  obtain ⟨ab, cb, rfl, _⟩ := hb.open'
  by_cases hlen : (digs 10000 x).length = (digs 10000 y).length
  · exact compare_same x y aa ab ca cb w ha hb hlen hx
  · have hcmp : cmpI ((digs 10000 x).length : Int) ((digs 10000 y).length : Int) = cmpN x y := by
      rw [cmp_sgn_pos]
      by_cases hlt : (digs 10000 x).length < (digs 10000 y).length
      · rw [cmpN_lt hlt, cmpN_lt (digs_len_lt (B := 10000) (by decide) hlt)]
      · have hgt : (digs 10000 y).length < (digs 10000 x).length := by omega
        rw [cmpN_gt hgt, cmpN_gt (digs_len_lt (B := 10000) (by decide) hgt)]
    obtain ⟨n, hn⟩ : ∃ n, (digs 10000 x).length = n := ⟨_, rfl⟩
    obtain ⟨m, hm⟩ : ∃ n, (digs 10000 y).length = n := ⟨_, rfl⟩
    rw [hn, hm] at hcmp hlen ⊢
    have hc : ((n : Int) != m) = true := by rw [bne_iff_ne]; omega
    have Hcmp := Lib.hid hcmp
    clear hn hm hcmp ha hb hlen hx
    go_enter Tryz.func80, Tryz.ntmps80
    go_wp2_with (go_at_call 105; refine (cmpCompare_any _ _ _).mono ?_; rw [Hcmp.out]; rintro e w' ⟨rfl, rfl⟩)
    refine bodyPost_ret (v := .int .i64 (cmpN x y)) (by simp [results, Tryz.results80, go_sem]) rfl ⟨rfl, ?_⟩
    exact ((Below.refl _ w).alloc (Nat.le_refl _) _).alloc (by simp) _
end Go.Proofs.YtgeoidnleagloaaGreatDoor
