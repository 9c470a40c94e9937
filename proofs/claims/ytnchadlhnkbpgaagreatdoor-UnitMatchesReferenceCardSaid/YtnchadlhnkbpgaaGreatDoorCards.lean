/-
  DERIVED. GIVEN WITH THE SEED: THE CARDS: each row of YtnchadlhnkbpgaaGreatDoorRows.lean that lists a variable, with what it lists TIED to the program's text (the seventh form; the later family's looks); each row that meets fmt, with fmt's text TOLD by the authors' own Lean function (tested against real Go, not proved from fmt's source: count such statements apart). THE CARD IS WHAT COUNTS. Prove the row's statement (the work); the ties are given (YtnchadlhnkbpgaaGreatDoorTie.lean); close each card by the builder's one call (the guide's Derived/Test/ToyasCard.lean, 'card_holds'). Laid BY PROGRAM, IN A SANDBOX (cutbox-door.mjs). By AI agents, Wed Nov 11 2026. No macro, syntax, notation, axiom, sorry.
-/
import Derived.Test.YtnchadlhnkbpgaaGreatDoorRows
import GoSem.ClaimSeven
namespace Go.Proofs.YtnchadlhnkbpgaaGreatDoor
namespace Rows

/-- THE TIED CARD OF 'yardsticklaw07.UnitMatchesReference'. -/
def unitMatchesReferenceCard : Claim7 := { stood := { row := unitMatchesReferenceRow, standIns := [], harness := (true, "611667a7a624dd15a526d69ec943c334a2e9e6049a68dd96cebb84b936859058"), looks := true }, kinds := [], alts := [], laidByText := true, laidKinds := [.data, .data, .data, .data, .sentinel, .sentinel, .pinned], laidTests := true, laidLooks := .later }
def UnitMatchesReferenceCardSaid : Prop := Claim7.holds Tryz.pinned (.plain (OpenSpec.ofChange unitMatchesReferenceSpec)) unitMatchesReferenceCard

/-- THE TIED CARD OF 'yardsticklaw07.UnitTextMatchesReference'. -/
def unitTextMatchesReferenceCard : Claim7 := { stood := { row := unitTextMatchesReferenceRow, standIns := [], harness := (true, "611667a7a624dd15a526d69ec943c334a2e9e6049a68dd96cebb84b936859058"), looks := true }, kinds := [], alts := [], laidByText := true, laidKinds := [.data, .data, .data, .data, .sentinel, .sentinel, .pinned], laidTests := true, laidLooks := .later }
def UnitTextMatchesReferenceCardSaid : Prop := Claim7.holds Tryz.pinned (.plain (OpenSpec.ofChange unitTextMatchesReferenceSpec)) unitTextMatchesReferenceCard

/-- THE TIED CARD OF 'yardsticklaw07.UnitGroup'. -/
def unitGroupCard : Claim7 := { stood := { row := unitGroupRow, standIns := [], harness := (true, "611667a7a624dd15a526d69ec943c334a2e9e6049a68dd96cebb84b936859058"), looks := true }, kinds := [], alts := [], laidByText := true, laidKinds := [.data, .data, .data, .data, .sentinel, .sentinel, .pinned], laidTests := true, laidLooks := .later }
def UnitGroupCardSaid : Prop := Claim7.holds Tryz.pinned (.plain (OpenSpec.ofChange unitGroupSpec)) unitGroupCard

/-- THE TIED CARD OF 'yardsticklaw07.UnitRoots'. -/
def unitRootsCard : Claim7 := { stood := { row := unitRootsRow, standIns := [], harness := (true, "611667a7a624dd15a526d69ec943c334a2e9e6049a68dd96cebb84b936859058"), looks := true }, kinds := [], alts := [], laidByText := true, laidKinds := [.data, .data, .data, .data, .sentinel, .sentinel, .pinned], laidTests := true, laidLooks := .later }
def UnitRootsCardSaid : Prop := Claim7.holds Tryz.pinned (.plain (OpenSpec.ofChange unitRootsSpec)) unitRootsCard

/-- THE TIED CARD OF 'yardsticklaw07.UnitProducts'. -/
def unitProductsCard : Claim7 := { stood := { row := unitProductsRow, standIns := [], harness := (true, "611667a7a624dd15a526d69ec943c334a2e9e6049a68dd96cebb84b936859058"), looks := true }, kinds := [], alts := [], laidByText := true, laidKinds := [.data, .data, .data, .data, .sentinel, .sentinel, .pinned], laidTests := true, laidLooks := .later }
def UnitProductsCardSaid : Prop := Claim7.holds Tryz.pinned (.plain (OpenSpec.ofChange unitProductsSpec)) unitProductsCard

/-- THE TIED CARD OF 'yardsticklaw07.UnitSums'. -/
def unitSumsCard : Claim7 := { stood := { row := unitSumsRow, standIns := [], harness := (true, "611667a7a624dd15a526d69ec943c334a2e9e6049a68dd96cebb84b936859058"), looks := true }, kinds := [], alts := [], laidByText := true, laidKinds := [.data, .data, .data, .data, .sentinel, .sentinel, .pinned], laidTests := true, laidLooks := .later }
def UnitSumsCardSaid : Prop := Claim7.holds Tryz.pinned (.plain (OpenSpec.ofChange unitSumsSpec)) unitSumsCard

/-- THE TIED CARD OF 'yardsticklaw07.UnitConverts'. -/
def unitConvertsCard : Claim7 := { stood := { row := unitConvertsRow, standIns := [], harness := (true, "611667a7a624dd15a526d69ec943c334a2e9e6049a68dd96cebb84b936859058"), looks := true }, kinds := [], alts := [], laidByText := true, laidKinds := [.data, .data, .data, .data, .sentinel, .sentinel, .pinned], laidTests := true, laidLooks := .later }
def UnitConvertsCardSaid : Prop := Claim7.holds Tryz.pinned (.plain (OpenSpec.ofChange unitConvertsSpec)) unitConvertsCard

/-- THE TIED CARD OF 'yardsticklaw07.UnitUnmixed'. -/
def unitUnmixedCard : Claim7 := { stood := { row := unitUnmixedRow, standIns := [], harness := (true, "611667a7a624dd15a526d69ec943c334a2e9e6049a68dd96cebb84b936859058"), looks := true }, kinds := [], alts := [], laidByText := true, laidKinds := [.data, .data, .data, .data, .sentinel, .sentinel, .pinned], laidTests := true, laidLooks := .later }
def UnitUnmixedCardSaid : Prop := Claim7.holds Tryz.pinned (.plain (OpenSpec.ofChange unitUnmixedSpec)) unitUnmixedCard

/-- THE TIED CARD OF 'yardsticklaw07.UnitPowers'. -/
def unitPowersCard : Claim7 := { stood := { row := unitPowersRow, standIns := [], harness := (true, "611667a7a624dd15a526d69ec943c334a2e9e6049a68dd96cebb84b936859058"), looks := true }, kinds := [], alts := [], laidByText := true, laidKinds := [.data, .data, .data, .data, .sentinel, .sentinel, .pinned], laidTests := true, laidLooks := .later }
def UnitPowersCardSaid : Prop := Claim7.holds Tryz.pinned (.plain (OpenSpec.ofChange unitPowersSpec)) unitPowersCard

/-- THE SECOND FORM's CARD OF 'yardsticklaw07.UnitMatchesReference'. -/
def unitMatchesReferenceUptoCard : Claim7 := { stood := { row := unitMatchesReferenceUptoRow, standIns := [], harness := (true, "611667a7a624dd15a526d69ec943c334a2e9e6049a68dd96cebb84b936859058"), looks := true }, kinds := [], alts := [], laidByText := true, laidKinds := [.data, .data, .data, .data, .sentinel, .sentinel, .pinned], laidTests := true, laidLooks := .later }
def UnitMatchesReferenceUptoCardSaid : Prop := Claim7.holds Tryz.pinned (.plain (OpenSpec.upto unitMatchesReferenceSpec)) unitMatchesReferenceUptoCard

/-- THE SECOND FORM's CARD OF 'yardsticklaw07.UnitTextMatchesReference'. -/
def unitTextMatchesReferenceUptoCard : Claim7 := { stood := { row := unitTextMatchesReferenceUptoRow, standIns := [], harness := (true, "611667a7a624dd15a526d69ec943c334a2e9e6049a68dd96cebb84b936859058"), looks := true }, kinds := [], alts := [], laidByText := true, laidKinds := [.data, .data, .data, .data, .sentinel, .sentinel, .pinned], laidTests := true, laidLooks := .later }
def UnitTextMatchesReferenceUptoCardSaid : Prop := Claim7.holds Tryz.pinned (.plain (OpenSpec.upto unitTextMatchesReferenceSpec)) unitTextMatchesReferenceUptoCard

/-- THE SECOND FORM's CARD OF 'yardsticklaw07.UnitGroup'. -/
def unitGroupUptoCard : Claim7 := { stood := { row := unitGroupUptoRow, standIns := [], harness := (true, "611667a7a624dd15a526d69ec943c334a2e9e6049a68dd96cebb84b936859058"), looks := true }, kinds := [], alts := [], laidByText := true, laidKinds := [.data, .data, .data, .data, .sentinel, .sentinel, .pinned], laidTests := true, laidLooks := .later }
def UnitGroupUptoCardSaid : Prop := Claim7.holds Tryz.pinned (.plain (OpenSpec.upto unitGroupSpec)) unitGroupUptoCard

/-- THE SECOND FORM's CARD OF 'yardsticklaw07.UnitRoots'. -/
def unitRootsUptoCard : Claim7 := { stood := { row := unitRootsUptoRow, standIns := [], harness := (true, "611667a7a624dd15a526d69ec943c334a2e9e6049a68dd96cebb84b936859058"), looks := true }, kinds := [], alts := [], laidByText := true, laidKinds := [.data, .data, .data, .data, .sentinel, .sentinel, .pinned], laidTests := true, laidLooks := .later }
def UnitRootsUptoCardSaid : Prop := Claim7.holds Tryz.pinned (.plain (OpenSpec.upto unitRootsSpec)) unitRootsUptoCard

/-- THE SECOND FORM's CARD OF 'yardsticklaw07.UnitProducts'. -/
def unitProductsUptoCard : Claim7 := { stood := { row := unitProductsUptoRow, standIns := [], harness := (true, "611667a7a624dd15a526d69ec943c334a2e9e6049a68dd96cebb84b936859058"), looks := true }, kinds := [], alts := [], laidByText := true, laidKinds := [.data, .data, .data, .data, .sentinel, .sentinel, .pinned], laidTests := true, laidLooks := .later }
def UnitProductsUptoCardSaid : Prop := Claim7.holds Tryz.pinned (.plain (OpenSpec.upto unitProductsSpec)) unitProductsUptoCard

/-- THE SECOND FORM's CARD OF 'yardsticklaw07.UnitSums'. -/
def unitSumsUptoCard : Claim7 := { stood := { row := unitSumsUptoRow, standIns := [], harness := (true, "611667a7a624dd15a526d69ec943c334a2e9e6049a68dd96cebb84b936859058"), looks := true }, kinds := [], alts := [], laidByText := true, laidKinds := [.data, .data, .data, .data, .sentinel, .sentinel, .pinned], laidTests := true, laidLooks := .later }
def UnitSumsUptoCardSaid : Prop := Claim7.holds Tryz.pinned (.plain (OpenSpec.upto unitSumsSpec)) unitSumsUptoCard

/-- THE SECOND FORM's CARD OF 'yardsticklaw07.UnitConverts'. -/
def unitConvertsUptoCard : Claim7 := { stood := { row := unitConvertsUptoRow, standIns := [], harness := (true, "611667a7a624dd15a526d69ec943c334a2e9e6049a68dd96cebb84b936859058"), looks := true }, kinds := [], alts := [], laidByText := true, laidKinds := [.data, .data, .data, .data, .sentinel, .sentinel, .pinned], laidTests := true, laidLooks := .later }
def UnitConvertsUptoCardSaid : Prop := Claim7.holds Tryz.pinned (.plain (OpenSpec.upto unitConvertsSpec)) unitConvertsUptoCard

/-- THE SECOND FORM's CARD OF 'yardsticklaw07.UnitUnmixed'. -/
def unitUnmixedUptoCard : Claim7 := { stood := { row := unitUnmixedUptoRow, standIns := [], harness := (true, "611667a7a624dd15a526d69ec943c334a2e9e6049a68dd96cebb84b936859058"), looks := true }, kinds := [], alts := [], laidByText := true, laidKinds := [.data, .data, .data, .data, .sentinel, .sentinel, .pinned], laidTests := true, laidLooks := .later }
def UnitUnmixedUptoCardSaid : Prop := Claim7.holds Tryz.pinned (.plain (OpenSpec.upto unitUnmixedSpec)) unitUnmixedUptoCard

/-- THE SECOND FORM's CARD OF 'yardsticklaw07.UnitPowers'. -/
def unitPowersUptoCard : Claim7 := { stood := { row := unitPowersUptoRow, standIns := [], harness := (true, "611667a7a624dd15a526d69ec943c334a2e9e6049a68dd96cebb84b936859058"), looks := true }, kinds := [], alts := [], laidByText := true, laidKinds := [.data, .data, .data, .data, .sentinel, .sentinel, .pinned], laidTests := true, laidLooks := .later }
def UnitPowersUptoCardSaid : Prop := Claim7.holds Tryz.pinned (.plain (OpenSpec.upto unitPowersSpec)) unitPowersUptoCard
end Rows
end Go.Proofs.YtnchadlhnkbpgaaGreatDoor
