/- The reference's ToInt of a short number, by the run. -/
import Derived.Test.YtgeoidnleagloaaGreatDoorLV
import Derived.Test.YtgeoidnleagloaaGreatDoorMP
set_option linter.unusedVariables false
set_option linter.unusedSimpArgs false
namespace Go.Proofs.YtgeoidnleagloaaGreatDoor
open Go Go.RowKit Go.Sy Yk

def cVS : Ctr := fun args => match args with
  | [.val (.string a)] => some (sz a, .val (.bool (vS a)))
  | _ => none
def cCS : Ctr := fun args => match args with
  | [.val (.string a), .val (.string b)] => some (sz a && sz b, .val (.int .i64 (iCmp a b)))
  | _ => none
section
variable {W0 : World}
theorem ctrVS : CtrOK Tryz.prog W0 53 cVS := by
  intro β w args b s hb h hn
  unfold cVS at h
  split at h
  · rename_i a
    simp only [Option.some.injEq, Prod.mk.injEq] at h
    obtain ⟨rfl, rfl⟩ := h
    simp only [sz_iff] at hn
    refine ⟨by simp [SV.ids], (refValid_any a w hn).mono ?_⟩
    rintro e w' ⟨rfl, rfl⟩
    exact ⟨rfl, Below.refl _ _⟩
  · cases h
theorem ctrCS : CtrOK Tryz.prog W0 67 cCS := by
  intro β w args b s hb h hn
  unfold cCS at h
  split at h
  · rename_i a b'
    simp only [Option.some.injEq, Prod.mk.injEq] at h
    obtain ⟨rfl, rfl⟩ := h
    simp only [Bool.and_eq_true, sz_iff] at hn
    exact ⟨by simp [SV.ids], (refCompare_any a b' w hn.1 hn.2).mono fun e w' ⟨h1, h2⟩ => ⟨h1, h2⟩⟩
  · cases h
def gamT : List (FuncId × Ctr) := [(53, cVS), (67, cCS)]
theorem gamT_ok : ∀ p ∈ gamT, CtrOK Tryz.prog W0 p.1 p.2 ∧ Callable Tryz.prog p.1 := by
  simp only [gamT, List.forall_mem_cons, List.forall_mem_nil]
  exact ⟨⟨ctrVS, Tryz.call53⟩, ⟨ctrCS, Tryz.call67⟩, fun _ h => by cases h⟩
def annT (s : ByteArray) : FuncId → Nat → Option Ann := fun f k => bif Nat.beq f 43 && Nat.beq k 5 then
  some { X := Int × Int, inv := fun x => 0 ≤ x.1 ∧ x.1 ≤ s.size ∧ x.2 = pv s x.1.toNat, tm := fun x => [(0, .val (.string s)), (4, .val (.int .i64 x.2)), (5, .val (.int .i64 x.1))], bk := fun _ => [], mu := fun x => (s.size - x.1).toNat, clean := fun _ _ _ h => by cases h } else none
abbrev runT (s : ByteArray) (K : SV → Prop) : Prop := inlN Tryz.prog (oneOf [43]) (lookG gamT) (lookM []) (annT s) 2 43 [.val (.string s)] (fun _ => none) 0 [] fun r _ _ _ => K r
end
set_option maxRecDepth 100000 in
theorem toInt_vc (s : ByteArray) (K : SV → Prop) : runT s K = (
needB (sz s)
  (needB (impB (!!vS s) (sz s && true))
    (needB (impB (!(!vS s || decide (iCmp s { data := #[45, 57, 50, 50, 51, 51, 55, 50, 48, 51, 54, 56, 53, 52, 55, 55, 53, 56, 48, 56] } < 0))) (sz s && true))
      (branch
        (!vS s || decide (iCmp s { data := #[45, 57, 50, 50, 51, 51, 55, 50, 48, 51, 54, 56, 53, 52, 55, 55, 53, 56, 48, 56] } < 0) ||
          decide (iCmp s { data := #[57, 50, 50, 51, 51, 55, 50, 48, 51, 54, 56, 53, 52, 55, 55, 53, 56, 48, 55] } > 0))
        (K (SV.tup [SV.val (Value.int IntKind.i64 0), SV.val (Value.int IntKind.i64 30)]))
        (∃ x0 : Int × Int,
          (0 ≤ x0.fst ∧ x0.fst ≤ (↑s.size : Int) ∧ x0.snd = pv s x0.fst.toNat) ∧
            (TV.v (SV.val (Value.string s)) = TV.v (SV.val (Value.string s)) ∧
                TV.v (SV.val (Value.int IntKind.i64 0)) = TV.v (SV.val (Value.int IntKind.i64 x0.snd)) ∧
                  TV.v (SV.val (Value.int IntKind.i64 0)) = TV.v (SV.val (Value.int IntKind.i64 x0.fst)) ∧ True) ∧
              True ∧
                ∀ (x : Int × Int),
                  0 ≤ x.fst ∧ x.fst ≤ (↑s.size : Int) ∧ x.snd = pv s x.fst.toNat →
                    branch (decide (x.fst < (↑s.size : Int)))
                      (needB (decide (0 ≤ x.fst) && decide (x.fst < (↑s.size : Int)))
                        (branch (byteI s x.fst.toNat == 45)
                          (needB (inR IntKind.i64 (x.fst + 1))
                            (∃ x' : Int × Int,
                              (0 ≤ x'.fst ∧ x'.fst ≤ (↑s.size : Int) ∧ x'.snd = pv s x'.fst.toNat) ∧
                                ((↑s.size : Int) - x'.fst).toNat < ((↑s.size : Int) - x.fst).toNat ∧
                                  (TV.v (SV.val (Value.string s)) = TV.v (SV.val (Value.string s)) ∧
                                      TV.v (SV.val (Value.int IntKind.i64 x.snd)) = TV.v (SV.val (Value.int IntKind.i64 x'.snd)) ∧
                                        TV.v (SV.val (Value.int IntKind.i64 (x.fst + 1))) = TV.v (SV.val (Value.int IntKind.i64 x'.fst)) ∧ True) ∧
                                    True ∧ True))
                          (needB (decide (0 ≤ x.fst) && decide (x.fst < (↑s.size : Int)))
                            (needB (inR IntKind.u8 (byteI s x.fst.toNat - 48))
                              (needB (inR IntKind.i64 (byteI s x.fst.toNat - 48))
                                (needB (decide (0 < (↑s.size : Int)))
                                  (branch (byteI s 0 == 45)
                                    (needB (inR IntKind.i64 (-(byteI s x.fst.toNat - 48)))
                                      (needB (inR IntKind.i64 (10 * x.snd))
                                        (needB (inR IntKind.i64 (10 * x.snd + -(byteI s x.fst.toNat - 48)))
                                          (needB (inR IntKind.i64 (x.fst + 1))
                                            (∃ x' : Int × Int,
                                              (0 ≤ x'.fst ∧ x'.fst ≤ (↑s.size : Int) ∧ x'.snd = pv s x'.fst.toNat) ∧
                                                ((↑s.size : Int) - x'.fst).toNat < ((↑s.size : Int) - x.fst).toNat ∧
                                                  (TV.v (SV.val (Value.string s)) = TV.v (SV.val (Value.string s)) ∧
                                                      TV.v (SV.val (Value.int IntKind.i64 (10 * x.snd + -(byteI s x.fst.toNat - 48)))) = TV.v (SV.val (Value.int IntKind.i64 x'.snd)) ∧
                                                        TV.v (SV.val (Value.int IntKind.i64 (x.fst + 1))) = TV.v (SV.val (Value.int IntKind.i64 x'.fst)) ∧ True) ∧
                                                    True ∧ True)))))
                                    (needB (inR IntKind.i64 (10 * x.snd))
                                      (needB (inR IntKind.i64 (10 * x.snd + (byteI s x.fst.toNat - 48)))
                                        (needB (inR IntKind.i64 (x.fst + 1))
                                          (∃ x' : Int × Int,
                                            (0 ≤ x'.fst ∧ x'.fst ≤ (↑s.size : Int) ∧ x'.snd = pv s x'.fst.toNat) ∧
                                              ((↑s.size : Int) - x'.fst).toNat < ((↑s.size : Int) - x.fst).toNat ∧
                                                (TV.v (SV.val (Value.string s)) = TV.v (SV.val (Value.string s)) ∧
                                                    TV.v (SV.val (Value.int IntKind.i64 (10 * x.snd + (byteI s x.fst.toNat - 48)))) = TV.v (SV.val (Value.int IntKind.i64 x'.snd)) ∧
                                                      TV.v (SV.val (Value.int IntKind.i64 (x.fst + 1))) = TV.v (SV.val (Value.int IntKind.i64 x'.fst)) ∧ True) ∧
                                                  True ∧ True)))))))))))
                      (K (SV.tup [SV.val (Value.int IntKind.i64 x.snd), SV.val (Value.int IntKind.i64 0)]))))))) := by kernel_rfl
def cToInt : Ctr := fun args => match args with
  | [.val (.string s)] => some (vS s && decide ((nS s).natAbs < 1000000000000000), .tup [.val (.int .i64 (nS s)), .val (.int .i64 0)])
  | _ => none
theorem byteI_get {s : ByteArray} {k : Nat} (h : k < s.size) : ∃ c, s.data.toList[k]? = some c ∧ byteI s k = c.toNat := by
  have hk : k < s.data.toList.length := by rw [Array.length_toList]; exact h
  refine ⟨s.data.toList[k], List.getElem?_eq_getElem hk, ?_⟩
  unfold byteI
  rw [List.getElem?_eq_getElem hk]
theorem cmp_lo {s : ByteArray} (hv : vS s = true) (h : (nS s).natAbs < 1000000000000000) : decide (iCmp s ⟨#[45, 57, 50, 50, 51, 51, 55, 50, 48, 51, 54, 56, 53, 52, 55, 55, 53, 56, 48, 56]⟩ < 0) = false := by
  have e : nS ⟨#[45, 57, 50, 50, 51, 51, 55, 50, 48, 51, 54, 56, 53, 52, 55, 55, 53, 56, 48, 56]⟩ = -9223372036854775808 := by decide
  have e2 : vS ⟨#[45, 57, 50, 50, 51, 51, 55, 50, 48, 51, 54, 56, 53, 52, 55, 55, 53, 56, 48, 56]⟩ = true := by decide
  unfold iCmp
  simp only [hv, e, e2, Bool.and_self, if_true]
  unfold cmpI
  rw [if_neg (by omega), if_pos (by omega)]
  rfl
theorem cmp_hi {s : ByteArray} (hv : vS s = true) (h : (nS s).natAbs < 1000000000000000) : decide (iCmp s ⟨#[57, 50, 50, 51, 51, 55, 50, 48, 51, 54, 56, 53, 52, 55, 55, 53, 56, 48, 55]⟩ > 0) = false := by
  have e : nS ⟨#[57, 50, 50, 51, 51, 55, 50, 48, 51, 54, 56, 53, 52, 55, 55, 53, 56, 48, 55]⟩ = 9223372036854775807 := by decide
  have e2 : vS ⟨#[57, 50, 50, 51, 51, 55, 50, 48, 51, 54, 56, 53, 52, 55, 55, 53, 56, 48, 55]⟩ = true := by decide
  unfold iCmp
  simp only [hv, e, e2, Bool.and_self, if_true]
  unfold cmpI
  rw [if_pos (by omega)]
  rfl
section
variable {W0 : World}
set_option maxRecDepth 100000 in
theorem ctrToInt : CtrOK Tryz.prog W0 43 cToInt := by
  intro β w args b r hb hk hn
  unfold cToInt at hk
  split at hk
  · rename_i s
    simp only [Option.some.injEq, Prod.mk.injEq] at hk
    obtain ⟨rfl, rfl⟩ := hk
    simp only [Bool.and_eq_true, decide_eq_true_eq] at hn
    obtain ⟨hv, hs⟩ := hn
    have H : Hyp Tryz.prog w (oneOf [43]) (lookG gamT) (lookM []) := hyp_of gamT_ok (fun _ h => by cases h) (by simp only [List.forall_mem_cons, List.forall_mem_nil]; exact ⟨Tryz.call43, fun _ h => by cases h⟩) mixed
    have R : runT s (fun r => r = .tup [.val (.int .i64 (nS s)), .val (.int .i64 0)]) := by
      rw [toInt_vc]
      have sz1 := vS_size hv
      have ss : sz s = true := sz_of hv
      simp only [hv, ss, cmp_lo hv hs, cmp_hi hv hs, Bool.not_true, Bool.not_false, Bool.and_self, Bool.or_self, impB_true, needB_true]
      refine branch_iff.2 ⟨fun h => by simp at h, fun _ => ?_⟩
      refine ⟨(0, 0), ⟨by omega, by show (0 : Int) ≤ s.size; omega, (pv_zero s).symm⟩, ⟨trivial, rfl, rfl, trivial⟩, trivial, ?_⟩
      rintro ⟨i, n⟩ ⟨i0, i1, e⟩
      dsimp only at i0 i1 e ⊢
      subst e
      obtain ⟨k, rfl⟩ : ∃ k : Nat, i = k := ⟨i.toNat, by omega⟩
      rw [Int.toNat_natCast]
      refine branch_iff.2 ⟨fun hlt => ?_, fun hge => ?_⟩
      · have hlt : k < s.size := by simpa using hlt
        obtain ⟨c, hc, hb⟩ := byteI_get hlt
        obtain ⟨c0, hc0, hb0⟩ := byteI_get (s := s) (k := 0) (by omega)
        obtain ⟨b1, b2⟩ := byte_of hv hc
        have l1 := pv_le s k
        have l2 := pv_le s (k + 1)
        have hi : decide (0 ≤ (k : Int)) && decide ((k : Int) < s.size) := by simp; omega
        have hz : decide (0 < (s.size : Int)) = true := by simp; omega
        have ir : inR IntKind.i64 ((k : Int) + 1) = true := inR_small (by omega) (by omega)
        rw [hb, hb0]
        simp only [hi, hz, ir, needB_true]
        by_cases h45 : c = 45
        · obtain rfl := b1 h45
          subst h45
          refine branch_iff.2 ⟨fun _ => ?_, fun h => by simp at h⟩
          refine ⟨((0 : Nat) + 1, 0), ⟨by omega, by show ((0 : Nat) : Int) + 1 ≤ s.size; omega, by show 0 = pv s (((0 : Nat) : Int) + 1).toNat; exact (pv_sign hc).symm⟩, by show ((s.size : Int) - ((0 : Nat) + 1)).toNat < ((s.size : Int) - (0 : Nat)).toNat; omega, ⟨trivial, by rw [pv_zero], rfl, trivial⟩, trivial, trivial⟩
        · obtain ⟨d1, d2⟩ := b2 h45
          have ps := pv_succ hc h45 d1
          have hne : ¬ ((c.toNat : Int) == 45) = true := by
            intro h
            have : (c.toNat : Int) = 45 := by simpa using h
            omega
          have r1 : inR IntKind.u8 ((c.toNat : Int) - 48) = true := by rw [inR_iff]; simp only [kLo, kHi]; omega
          have r2 : inR IntKind.i64 ((c.toNat : Int) - 48) = true := inR_small (by omega) (by omega)
          have r3 : inR IntKind.i64 (-((c.toNat : Int) - 48)) = true := inR_small (by omega) (by omega)
          have r4 : inR IntKind.i64 (10 * pv s k) = true := by rw [inR_iff]; simp only [kLo, kHi]; omega
          refine branch_iff.2 ⟨fun h => absurd h hne, fun _ => ?_⟩
          simp only [r1, r2, r3, r4, needB_true]
          have h0 : s.data.toList[0]? = some 45 ↔ ((c0.toNat : Int) == 45) = true := by
            rw [hc0]
            simp only [Option.some.injEq, beq_iff_eq]
            constructor
            · rintro rfl; rfl
            · intro h
              apply UInt8.toNat_inj.1
              have : c0.toNat = 45 := by omega
              rw [this]; rfl
          refine branch_iff.2 ⟨fun h => ?_, fun h => ?_⟩
          · rw [if_pos (h0.2 h)] at ps
            have r5 : inR IntKind.i64 (10 * pv s k + -((c.toNat : Int) - 48)) = true := by rw [inR_iff]; simp only [kLo, kHi]; omega
            rw [r5, needB_true]
            refine ⟨((k : Int) + 1, pv s (k + 1)), ⟨by show (0 : Int) ≤ k + 1; omega, by show (k : Int) + 1 ≤ s.size; omega, rfl⟩, by show ((s.size : Int) - (k + 1)).toNat < ((s.size : Int) - k).toNat; omega, ⟨trivial, by rw [ps], rfl, trivial⟩, trivial, trivial⟩
          · rw [if_neg (fun e => by rw [h0.1 e] at h; cases h)] at ps
            have r5 : inR IntKind.i64 (10 * pv s k + ((c.toNat : Int) - 48)) = true := by rw [inR_iff]; simp only [kLo, kHi]; omega
            rw [r5, needB_true]
            refine ⟨((k : Int) + 1, pv s (k + 1)), ⟨by show (0 : Int) ≤ k + 1; omega, by show (k : Int) + 1 ≤ s.size; omega, rfl⟩, by show ((s.size : Int) - (k + 1)).toNat < ((s.size : Int) - k).toNat; omega, ⟨trivial, by rw [ps], rfl, trivial⟩, trivial, trivial⟩
      · have hge : ¬ (k : Int) < s.size := by simpa using hge
        obtain rfl : k = s.size := by omega
        rw [pv_all]
    refine ⟨by simp [SV.ids, SV.idss], ?_⟩
    obtain ⟨_, hc⟩ := inlN_sound H (annT s) 2 43 _ (fun _ => none) 0 [] _ β w R (bc_start w β) (fun _ _ => rfl) (fun s hs i hi => by
      simp at hs; subst hs; simp [SV.ids] at hi)
    refine Calls.mono hc ?_
    rintro e w' ⟨β', r, bl', nx', wl', rfl, rfl, hbc, _⟩
    exact ⟨by simp [SV.conc, SV.concs], hbc.below⟩
  · cases hk
end
end Go.Proofs.YtgeoidnleagloaaGreatDoor
