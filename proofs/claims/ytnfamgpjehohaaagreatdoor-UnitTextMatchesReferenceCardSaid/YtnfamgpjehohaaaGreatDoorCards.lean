/-
  DERIVED. GIVEN WITH THE SEED: THE CARDS: each row of YtnfamgpjehohaaaGreatDoorRows.lean that lists a variable, with what it lists TIED to the program's text (the seventh form; the later family's looks); each row that meets fmt, with fmt's text TOLD by the authors' own Lean function (tested against real Go, not proved from fmt's source: count such statements apart). THE CARD IS WHAT COUNTS. Prove the row's statement (the work); the ties are given (YtnfamgpjehohaaaGreatDoorTie.lean); close each card by the builder's one call (the guide's Derived/Test/ToyasCard.lean, 'card_holds'). Laid BY PROGRAM, IN A SANDBOX (cutbox-door.mjs). By AI agents, Wed Nov 11 2026. No macro, syntax, notation, axiom, sorry.
-/
import Derived.Test.YtnfamgpjehohaaaGreatDoorRows
import GoSem.ClaimSeven
namespace Go.Proofs.YtnfamgpjehohaaaGreatDoor
namespace Rows

/-- THE TIED CARD OF 'yardsticklaw07.UnitMatchesReference'. -/
def unitMatchesReferenceCard : Claim7 := { stood := { row := unitMatchesReferenceRow, standIns := [], harness := (true, "8bc2be36cfa4b9cb04e5e434bb3b86188c97900c94b74d4ef20d98799ce93bda"), looks := true }, kinds := [], alts := [], laidByText := true, laidKinds := [.data, .data, .data, .data, .sentinel, .sentinel, .pinned], laidTests := true, laidLooks := .later }
def UnitMatchesReferenceCardSaid : Prop := Claim7.holds Tryz.pinned (.plain (OpenSpec.ofChange unitMatchesReferenceSpec)) unitMatchesReferenceCard

/-- THE TIED CARD OF 'yardsticklaw07.UnitTextMatchesReference'. -/
def unitTextMatchesReferenceCard : Claim7 := { stood := { row := unitTextMatchesReferenceRow, standIns := [], harness := (true, "8bc2be36cfa4b9cb04e5e434bb3b86188c97900c94b74d4ef20d98799ce93bda"), looks := true }, kinds := [], alts := [], laidByText := true, laidKinds := [.data, .data, .data, .data, .sentinel, .sentinel, .pinned], laidTests := true, laidLooks := .later }
def UnitTextMatchesReferenceCardSaid : Prop := Claim7.holds Tryz.pinned (.plain (OpenSpec.ofChange unitTextMatchesReferenceSpec)) unitTextMatchesReferenceCard

/-- THE SECOND FORM's CARD OF 'yardsticklaw07.UnitMatchesReference'. -/
def unitMatchesReferenceUptoCard : Claim7 := { stood := { row := unitMatchesReferenceUptoRow, standIns := [], harness := (true, "8bc2be36cfa4b9cb04e5e434bb3b86188c97900c94b74d4ef20d98799ce93bda"), looks := true }, kinds := [], alts := [], laidByText := true, laidKinds := [.data, .data, .data, .data, .sentinel, .sentinel, .pinned], laidTests := true, laidLooks := .later }
def UnitMatchesReferenceUptoCardSaid : Prop := Claim7.holds Tryz.pinned (.plain (OpenSpec.upto unitMatchesReferenceSpec)) unitMatchesReferenceUptoCard

/-- THE SECOND FORM's CARD OF 'yardsticklaw07.UnitTextMatchesReference'. -/
def unitTextMatchesReferenceUptoCard : Claim7 := { stood := { row := unitTextMatchesReferenceUptoRow, standIns := [], harness := (true, "8bc2be36cfa4b9cb04e5e434bb3b86188c97900c94b74d4ef20d98799ce93bda"), looks := true }, kinds := [], alts := [], laidByText := true, laidKinds := [.data, .data, .data, .data, .sentinel, .sentinel, .pinned], laidTests := true, laidLooks := .later }
def UnitTextMatchesReferenceUptoCardSaid : Prop := Claim7.holds Tryz.pinned (.plain (OpenSpec.upto unitTextMatchesReferenceSpec)) unitTextMatchesReferenceUptoCard
end Rows
end Go.Proofs.YtnfamgpjehohaaaGreatDoor
