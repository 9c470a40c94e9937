/- RationalMatchesReference: for all fractions and integers the law returns true, and its arguments read as they did. Conditions: those of the given card (the listed variables of the library read as their initialisers lay them). -/
import Derived.Test.YtgeoidnleagloaaGreatDoorLXb
import Derived.Test.YtgeoidnleagloaaGreatDoorLF
import Derived.Test.YtgeoidnleagloaaGreatDoorLQ
import Derived.Test.YtgeoidnleagloaaGreatDoorCards
import Derived.Test.YtgeoidnleagloaaGreatDoorTie
import Derived.SevenTiedAt
set_option linter.unusedVariables false
set_option linter.unusedSimpArgs false
namespace Go.Proofs.YtgeoidnleagloaaGreatDoor
open Go.ChangeShapes Go.WideShapes Go.ChangeAt Go.RowKit Yk

set_option maxRecDepth 100000 in
theorem rationalMatchesReference_lifted (os : Os) (started : os.Started) (H : Type) (enc : TypeId × Value → H) :
    ReturnsInHanded {} Tryz.checked os 6 .any (fun w args => (Rows.rationalMatchesReferenceSpec.pre enc Tryz.prog Tryz.f6 [] false w args ∧ laidMetH Tryz.prog theLaid w) ∧ sizedMet enc Tryz.prog Tryz.f6 (OpenSpec.ofChange Rows.rationalMatchesReferenceSpec) false w args)
      (Rows.rationalMatchesReferenceSpec.post enc Tryz.prog Tryz.f6 false true false false) := by
  refine handed_and_shaped (C := Tryz.checked) (X := fun w _ => laidMetH Tryz.prog theLaid w) (fun _ _ _ hh h => h.of_heap hh) own started (by kernel_rfl) Tryz.func6
    (ChangeSpec.witness_shaped (enc := enc) (C := Tryz.checked) (os := os) (X := fun w _ => laidMetH Tryz.prog theLaid w) false (World.laidAll Tryz.prog os theLaid) #[.agg #[.string .empty, .string .empty], .agg #[.string .empty, .string .empty], .agg #[.int .i64 0, .int .i64 0, .int .i64 0, .int .i64 0], .agg #[.int .i64 0, .int .i64 0, .int .i64 0, .int .i64 0], .agg #[.int .i64 0, .int .i64 0], .int .i64 0, .int .i64 0, .int .i64 0] 8 (World.laidAll_os _ _ _)
      (World.shaped_of_ZipB (by kernel_rfl) (by kernel_rfl)) (by kernel_rfl) (by kernel_rfl) (by kernel_rfl)
      (by rw [MakeChecks.laidMetH_plain _ _ _ (by kernel_rfl)]; exact laidMet_laidAll _ (by kernel_rfl) (by kernel_rfl))) ?_
  intro W base args ds gs before hval0 hW hL hsh
  have hval : ∀ (j : Nat) t v, Tryz.f6.params[j]? = some t → args[j]? = some v → Value.okWide Tryz.prog W .any base t v := hval0
  have hW' := hW
  obtain ⟨p, q, hA0, hV, rfl, _, _⟩ := hW
  have hA : DataW.TrodAll enc Tryz.prog W 0 (fun _ => true) true Tryz.f6.params.toList args.toList ds p := hA0
  have hlt : ∀ x ∈ p, x.block < W.heap.size := fun x hx => by simpa using hW'.lt x (by simp [hx])
  have hrd : ∀ t ∈ Tryz.f6.params.toList, Tryz.prog.readableRec t = true ∧ t < Tryz.prog.types.size := by
    rw [Tryz.params6]
    have hall : ([23, 23, 24, 24, 47, 3, 3, 3].all fun u => Tryz.prog.readableRec u && decide (u < Tryz.prog.types.size)) = true := by kernel_rfl
    intro t ht
    have := List.all_eq_true.1 hall t (by simpa using ht)
    simpa using this
  have hstay := fun W' (hb : Below W.heap.size W W') => all_stays (by kernel_rfl) hb _ _ _ _ hrd hlt hA0
  rw [Tryz.params6] at hA hval
  obtain ⟨v0, vs0, d0, ds0, p0, q0, hargs, rfl, rfl, h0, r0⟩ := trodAll_cons hA
  obtain ⟨v1, vs1, d1, ds1, p1, q1, rfl, rfl, rfl, h1, r1⟩ := trodAll_cons r0
  obtain ⟨v2, vs2, d2, ds2, p2, q2, rfl, rfl, rfl, h2, r2⟩ := trodAll_cons r1
  obtain ⟨v3, vs3, d3, ds3, p3, q3, rfl, rfl, rfl, h3, r3⟩ := trodAll_cons r2
  obtain ⟨v4, vs4, d4, ds4, p4, q4, rfl, rfl, rfl, h4, r4⟩ := trodAll_cons r3
  obtain ⟨v5, vs5, d5, ds5, p5, q5, rfl, rfl, rfl, h5, r5⟩ := trodAll_cons r4
  obtain ⟨v6, vs6, d6, ds6, p6, q6, rfl, rfl, rfl, h6, r6⟩ := trodAll_cons r5
  obtain ⟨v7, vs7, d7, ds7, p7, q7, rfl, rfl, rfl, h7, r7⟩ := trodAll_cons r6
  obtain ⟨rfl, rfl, rfl⟩ := trodAll_nil r7
  obtain rfl : args = #[v0, v1, v2, v3, v4, v5, v6, v7] := by cases args; simp_all
  obtain ⟨rfl, rfl⟩ := trodVars_none hV
  obtain ⟨x00, x01, rfl, b00, b01⟩ := open_str2 (by kernel_rfl) (by kernel_rfl) (hval 0 23 v0 rfl rfl) h0
  obtain ⟨x10, x11, rfl, b10, b11⟩ := open_str2 (by kernel_rfl) (by kernel_rfl) (hval 1 23 v1 rfl rfl) h1
  obtain ⟨x20, x21, x22, x23, rfl, b20, b21, b22, b23⟩ := open_ints4 Tryz.underlying24 Tryz.underlying3 (by kernel_rfl) (by kernel_rfl) (hval 2 24 v2 rfl rfl) h2
  obtain ⟨x30, x31, x32, x33, rfl, b30, b31, b32, b33⟩ := open_ints4 Tryz.underlying24 Tryz.underlying3 (by kernel_rfl) (by kernel_rfl) (hval 3 24 v3 rfl rfl) h3
  obtain ⟨x40, x41, rfl, b40, b41⟩ := open_ints2 Tryz.underlying47 Tryz.underlying3 (by kernel_rfl) (by kernel_rfl) (hval 4 47 v4 rfl rfl) h4
  obtain ⟨x5, rfl, _, _, w5⟩ := open_int Tryz.underlying3 (hval 5 3 v5 rfl rfl) h5
  have b5 := i64_bounds w5
  obtain ⟨x6, rfl, _, _, w6⟩ := open_int Tryz.underlying3 (hval 6 3 v6 rfl rfl) h6
  have b6 := i64_bounds w6
  obtain ⟨x7, rfl, _, _, w7⟩ := open_int Tryz.underlying3 (hval 7 3 v7 rfl rfl) h7
  have b7 := i64_bounds w7
  refine (match_any x00 x01 x10 x11 x20 x21 x22 x23 x30 x31 x32 x33 x40 x41 x5 x6 x7 b20.1 b20.2 b21.1 b21.2 b22.1 b22.2 b23.1 b23.2 b30.1 b30.2 b31.1 b31.2 b32.1 b32.2 b33.1 b33.2 b40.1 b40.2 b41.1 b41.2 b5.1 b5.2 b6.1 b6.2 b7.1 b7.2 W (glob_of hsh hL)).mono fun e W' ⟨he, hb⟩ => ?_
  subst he
  exact ⟨_, rfl, _, _, _, [], _, [], hW', trodAll_mk1 (shut_bool Tryz.underlying4 _), hstay W' hb, rfl, hb.frame _, fun h => by cases h⟩

theorem rationalMatchesReference_holds : Rows.RationalMatchesReferenceSaid :=
  OpenClaim.holds_of_wide 6 Tryz.f6 rfl rfl rfl rfl rfl rfl rfl ⟨rfl, rfl, rfl, rfl, rfl⟩ rfl rfl rfl rfl rfl (by kernel_rfl) Tryz.func6 (by kernel_rfl)
    (of_decide_eq_true (by kernel_rfl)) (by unfold Func.isWrapper; first | (rw [if_pos (by decide +kernel)]; kernel_rfl) | (rw [if_neg (by decide +kernel)]; exact ⟨rfl, rfl⟩))
    (fun os started H enc _ => rationalMatchesReference_lifted os started H enc)
theorem rationalMatchesReference_card : Rows.RationalMatchesReferenceCardSaid :=
  Claim7.holds_tied_plain_at .later [] [.data, .data, .data, .data, .sentinel, .sentinel, .pinned] true (true, "4dc10a88129ae4622e584b13318755c8b0b35b8a8bca651b717609842bef8677") true rationalMatchesReference_holds (fun _ h => by cases h) (by kernel_rfl) (fun _ h => by cases h) rationalMatchesReference_row_tie rfl ⟨rfl, rfl⟩ (by kernel_rfl) rfl
    (fun f fn hf hfn => by
      obtain rfl : f = 6 := Option.some.inj ((show Tryz.prog.funcNamed "yardstick/yardsticklaw04.RationalMatchesReference" = some 6 by kernel_rfl).symm.trans hf) |>.symm
      obtain rfl : fn = Tryz.f6 := (Option.some.inj (Tryz.func6.symm.trans hfn)).symm
      exact ⟨by kernel_rfl, fun j t ht => by
        rw [Tryz.params6] at ht
        have hm : t ∈ [23, 23, 24, 24, 47, 3, 3, 3] := by simpa using Array.mem_of_getElem? ht
        have hall : ([23, 23, 24, 24, 47, 3, 3, 3].all fun u => !Tryz.prog.wantsStandIn u) = true := by kernel_rfl
        exact (show Tryz.prog.wantsStandIn t = false by simpa using List.all_eq_true.1 hall t hm)⟩)
    (by kernel_rfl)
#print axioms rationalMatchesReference_card
end Go.Proofs.YtgeoidnleagloaaGreatDoor
