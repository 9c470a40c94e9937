import Derived.Test.YthngoecanpokhaaGreatDoorZg
import Derived.Test.YthngoecanpokhaaGreatDoorRows
import Derived.Test.YthngoecanpokhaaGreatDoorCards
import Derived.SevenTiedAt
set_option linter.unusedVariables false
set_option linter.unusedSimpArgs false
namespace Go.Proofs.YthngoecanpokhaaGreatDoor
open Go Go.ChangeShapes Go.WideShapes
theorem VX : Tryz.pinned.checked.prog.funcNamed Rows.deriveUnitsRow.func = some 3 := by kernel_rfl
theorem bothTrue {a b : Bool} (h : a = true) (k : b = true) : (a && b) = true := by rw [h, k]; rfl
theorem joinedOf {P : Program} {f : FuncId} {fn : Func} {s : ChangeSpec} {c : OpenClaim} (h0 : (c.wf (OpenSpec.ofChange s)) = true) (h1 : (laidOutB P) = true) (h2 : (mapsRowed P) = true) (h3 : (fn.params.all (P.readableRec ·)) = true) (h4 : (namedTie P c.named s.vars) = true) (h5 : ((c.stops == [])) = true) (h6 : ((P.stops == [])) = true) (h7 : ((c.knobs == [])) = true) (h8 : ((P.stopKnobs == [])) = true) (h9 : ((c.inPlace == P.inPlace f)) = true) (h10 : ((c.unfollowed == P.unfollowed f)) = true) (h11 : ((c.recurses == P.recurses f)) = true) (h12 : ((c.named == P.varsNamed f)) = true) (h13 : ((c.maps == (fn.params.toList ++ s.plain.varTypes P).any (P.mapsRec ·))) = true) (h14 : ((c.ifaces == (fn.params.toList ++ s.plain.varTypes P).any (P.ifacesRec ·))) = true) (h15 : ((c.mapsOut == P.mapsAmong fn.resultTypes.toList)) = true) (h16 : ((c.loops == (fn.params.toList ++ s.plain.varTypes P).any (P.loopsFrom ·))) = true) (h17 : ((c.wideKeys == (fn.params.toList ++ s.plain.varTypes P ++ fn.resultTypes.toList).any (P.wideKeysFrom ·))) = true) (h18 : (s.vars.all (P.varReadable ·)) = true) (h19 : (fn.resultTypes.all (fun t => P.readableRec t && decide (t < P.types.size))) = true) (h20 : ((c.ifacesOut == fn.resultTypes.toList.any (P.ifacesRec ·))) = true) (h21 : ((c.loopsOut == fn.resultTypes.toList.any (P.loopsFrom ·))) = true) (h22 : ((c.plainKeys == P.plainKeys)) = true) (h23 : (c.shortTexts.isNone) = true) (h24 : (P.stopsHeard) = true) (h25 : (P.mayEnter) = true) (h26 : ((c.lifted == P.liftsFinal)) = true) (h27 : ((P.make == some c.make)) = true) (h28 : ((c.kinds == (if c.domain.isEmpty then [] else fn.params.toList.map fun t => match P.underlying t with | some (.int k) => some k | _ => none))) = true) (h29 : ((c.pinned == c.pinnedBy)) = true) (h30 : ((c.veiled == (fn.params.toList ++ s.plain.varTypes P ++ fn.resultTypes.toList).any (P.veiledRec ·))) = true) (h31 : (c.veiledFits P fn.params.toList (fn.params.toList ++ s.plain.varTypes P ++ fn.resultTypes.toList)) = true) : joinedFacts P f fn s c = true := by
  unfold joinedFacts
  exact (bothTrue (bothTrue (bothTrue (bothTrue (bothTrue (bothTrue (bothTrue (bothTrue (bothTrue (bothTrue (bothTrue (bothTrue (bothTrue (bothTrue (bothTrue (bothTrue (bothTrue (bothTrue (bothTrue (bothTrue (bothTrue (bothTrue (bothTrue (bothTrue (bothTrue (bothTrue (bothTrue (bothTrue (bothTrue (bothTrue (bothTrue h0 h1) h2) h3) h4) h5) h6) h7) h8) h9) h10) h11) h12) h13) h14) h15) h16) h17) h18) h19) h20) h21) h22) h23) h24) h25) h26) h27) h28) h29) h30) h31)
theorem dU_j0 : (Rows.deriveUnitsRow.wf (OpenSpec.ofChange Rows.deriveUnitsSpec)) = true := by kernel_rfl
theorem dU_j1 : (laidOutB Tryz.pinned.checked.prog) = true := by kernel_rfl
theorem dU_j2 : (mapsRowed Tryz.pinned.checked.prog) = true := by kernel_rfl
theorem dU_j3 : (Tryz.f3.params.all (Tryz.pinned.checked.prog.readableRec ·)) = true := by kernel_rfl
theorem dU_j4 : (namedTie Tryz.pinned.checked.prog Rows.deriveUnitsRow.named Rows.deriveUnitsSpec.vars) = true := by kernel_rfl
theorem dU_j5 : ((Rows.deriveUnitsRow.stops == [])) = true := by kernel_rfl
theorem dU_j6 : ((Tryz.pinned.checked.prog.stops == [])) = true := by kernel_rfl
theorem dU_j7 : ((Rows.deriveUnitsRow.knobs == [])) = true := by kernel_rfl
theorem dU_j8 : ((Tryz.pinned.checked.prog.stopKnobs == [])) = true := by kernel_rfl
theorem dU_j9 : ((Rows.deriveUnitsRow.inPlace == Tryz.pinned.checked.prog.inPlace 3)) = true := by kernel_rfl
theorem dU_j10 : ((Rows.deriveUnitsRow.unfollowed == Tryz.pinned.checked.prog.unfollowed 3)) = true := by kernel_rfl
theorem dU_j11 : ((Rows.deriveUnitsRow.recurses == Tryz.pinned.checked.prog.recurses 3)) = true := by kernel_rfl
theorem dU_j12 : ((Rows.deriveUnitsRow.named == Tryz.pinned.checked.prog.varsNamed 3)) = true := by kernel_rfl
theorem dU_j13 : ((Rows.deriveUnitsRow.maps == (Tryz.f3.params.toList ++ Rows.deriveUnitsSpec.plain.varTypes Tryz.pinned.checked.prog).any (Tryz.pinned.checked.prog.mapsRec ·))) = true := by kernel_rfl
theorem dU_j14 : ((Rows.deriveUnitsRow.ifaces == (Tryz.f3.params.toList ++ Rows.deriveUnitsSpec.plain.varTypes Tryz.pinned.checked.prog).any (Tryz.pinned.checked.prog.ifacesRec ·))) = true := by kernel_rfl
theorem dU_j15 : ((Rows.deriveUnitsRow.mapsOut == Tryz.pinned.checked.prog.mapsAmong Tryz.f3.resultTypes.toList)) = true := by kernel_rfl
theorem dU_j16 : ((Rows.deriveUnitsRow.loops == (Tryz.f3.params.toList ++ Rows.deriveUnitsSpec.plain.varTypes Tryz.pinned.checked.prog).any (Tryz.pinned.checked.prog.loopsFrom ·))) = true := by kernel_rfl
theorem dU_j17 : ((Rows.deriveUnitsRow.wideKeys == (Tryz.f3.params.toList ++ Rows.deriveUnitsSpec.plain.varTypes Tryz.pinned.checked.prog ++ Tryz.f3.resultTypes.toList).any (Tryz.pinned.checked.prog.wideKeysFrom ·))) = true := by kernel_rfl
theorem dU_j18 : (Rows.deriveUnitsSpec.vars.all (Tryz.pinned.checked.prog.varReadable ·)) = true := by kernel_rfl
theorem dU_j19 : (Tryz.f3.resultTypes.all (fun t => Tryz.pinned.checked.prog.readableRec t && decide (t < Tryz.pinned.checked.prog.types.size))) = true := by kernel_rfl
theorem dU_j20 : ((Rows.deriveUnitsRow.ifacesOut == Tryz.f3.resultTypes.toList.any (Tryz.pinned.checked.prog.ifacesRec ·))) = true := by kernel_rfl
theorem dU_j21 : ((Rows.deriveUnitsRow.loopsOut == Tryz.f3.resultTypes.toList.any (Tryz.pinned.checked.prog.loopsFrom ·))) = true := by kernel_rfl
theorem dU_j22 : ((Rows.deriveUnitsRow.plainKeys == Tryz.pinned.checked.prog.plainKeys)) = true := by kernel_rfl
theorem dU_j23 : (Rows.deriveUnitsRow.shortTexts.isNone) = true := by kernel_rfl
theorem dU_j24 : (Tryz.pinned.checked.prog.stopsHeard) = true := by kernel_rfl
theorem dU_j25 : (Tryz.pinned.checked.prog.mayEnter) = true := by kernel_rfl
theorem dU_j26 : ((Rows.deriveUnitsRow.lifted == Tryz.pinned.checked.prog.liftsFinal)) = true := by kernel_rfl
theorem dU_j27 : ((Tryz.pinned.checked.prog.make == some Rows.deriveUnitsRow.make)) = true := by kernel_rfl
theorem dU_j28 : ((Rows.deriveUnitsRow.kinds == (if Rows.deriveUnitsRow.domain.isEmpty then [] else Tryz.f3.params.toList.map fun t => match Tryz.pinned.checked.prog.underlying t with | some (.int k) => some k | _ => none))) = true := by kernel_rfl
theorem dU_j29 : ((Rows.deriveUnitsRow.pinned == Rows.deriveUnitsRow.pinnedBy)) = true := by kernel_rfl
theorem dU_j30 : ((Rows.deriveUnitsRow.veiled == (Tryz.f3.params.toList ++ Rows.deriveUnitsSpec.plain.varTypes Tryz.pinned.checked.prog ++ Tryz.f3.resultTypes.toList).any (Tryz.pinned.checked.prog.veiledRec ·))) = true := by kernel_rfl
theorem dU_j31 : (Rows.deriveUnitsRow.veiledFits Tryz.pinned.checked.prog Tryz.f3.params.toList (Tryz.f3.params.toList ++ Rows.deriveUnitsSpec.plain.varTypes Tryz.pinned.checked.prog ++ Tryz.f3.resultTypes.toList)) = true := by kernel_rfl
theorem aaD : joinedFacts Tryz.pinned.checked.prog 3 Tryz.f3 Rows.deriveUnitsSpec Rows.deriveUnitsRow = true :=
  joinedOf dU_j0 dU_j1 dU_j2 dU_j3 dU_j4 dU_j5 dU_j6 dU_j7 dU_j8 dU_j9 dU_j10 dU_j11 dU_j12 dU_j13 dU_j14 dU_j15 dU_j16 dU_j17 dU_j18 dU_j19 dU_j20 dU_j21 dU_j22 dU_j23 dU_j24 dU_j25 dU_j26 dU_j27 dU_j28 dU_j29 dU_j30 dU_j31
end Go.Proofs.YthngoecanpokhaaGreatDoor
