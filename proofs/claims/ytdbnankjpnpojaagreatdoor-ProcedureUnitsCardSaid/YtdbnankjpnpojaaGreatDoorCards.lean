/-
  DERIVED. GIVEN WITH THE SEED: THE CARDS: each row of YtdbnankjpnpojaaGreatDoorRows.lean that lists a variable, with what it lists TIED to the program's text (the seventh form; the later family's looks); each row that meets fmt, with fmt's text TOLD by the authors' own Lean function (tested against real Go, not proved from fmt's source: count such statements apart). THE CARD IS WHAT COUNTS. Prove the row's statement (the work); the ties are given (YtdbnankjpnpojaaGreatDoorTie.lean); close each card by the builder's one call (the guide's Derived/Test/ToyasCard.lean, 'card_holds'). Laid BY PROGRAM, IN A SANDBOX (cutbox-door.mjs). By AI agents, Wed Nov 11 2026. No macro, syntax, notation, axiom, sorry.
-/
import Derived.Test.YtdbnankjpnpojaaGreatDoorRows
import GoSem.ClaimSeven
namespace Go.Proofs.YtdbnankjpnpojaaGreatDoor
namespace Rows

/-- THE TIED CARD OF 'yardsticklaw09.ProcedureMatchesReference'. -/
def procedureMatchesReferenceCard : Claim7 := { stood := { row := procedureMatchesReferenceRow, standIns := [], harness := (true, "9f1a36e7de2ab6ccd80b4fab6e2b1b59e4f1fe447ed4ba99ec0d72dc669282af"), looks := true }, kinds := [], alts := [], laidByText := true, laidKinds := [.data, .data, .data, .data, .sentinel, .sentinel, .sentinel, .pinned], laidTests := true, laidLooks := .later }
def ProcedureMatchesReferenceCardSaid : Prop := Claim7.holds Tryz.pinned (.plain (OpenSpec.ofChange procedureMatchesReferenceSpec)) procedureMatchesReferenceCard

/-- THE TIED CARD OF 'yardsticklaw09.ProcedureUnits'. -/
def procedureUnitsCard : Claim7 := { stood := { row := procedureUnitsRow, standIns := [], harness := (true, "9f1a36e7de2ab6ccd80b4fab6e2b1b59e4f1fe447ed4ba99ec0d72dc669282af"), looks := true }, kinds := [], alts := [], laidByText := true, laidKinds := [.data, .data, .data, .data, .sentinel, .sentinel, .sentinel, .pinned], laidTests := true, laidLooks := .later }
def ProcedureUnitsCardSaid : Prop := Claim7.holds Tryz.pinned (.plain (OpenSpec.ofChange procedureUnitsSpec)) procedureUnitsCard

/-- THE TIED CARD OF 'yardsticklaw09.ProcedureBeginnings'. -/
def procedureBeginningsCard : Claim7 := { stood := { row := procedureBeginningsRow, standIns := [], harness := (true, "9f1a36e7de2ab6ccd80b4fab6e2b1b59e4f1fe447ed4ba99ec0d72dc669282af"), looks := true }, kinds := [], alts := [], laidByText := true, laidKinds := [.data, .data, .data, .data, .sentinel, .sentinel, .sentinel, .pinned], laidTests := true, laidLooks := .later }
def ProcedureBeginningsCardSaid : Prop := Claim7.holds Tryz.pinned (.plain (OpenSpec.ofChange procedureBeginningsSpec)) procedureBeginningsCard

/-- THE TIED CARD OF 'yardsticklaw09.ProcedureMixed'. -/
def procedureMixedCard : Claim7 := { stood := { row := procedureMixedRow, standIns := [], harness := (true, "9f1a36e7de2ab6ccd80b4fab6e2b1b59e4f1fe447ed4ba99ec0d72dc669282af"), looks := true }, kinds := [], alts := [], laidByText := true, laidKinds := [.data, .data, .data, .data, .sentinel, .sentinel, .sentinel, .pinned], laidTests := true, laidLooks := .later }
def ProcedureMixedCardSaid : Prop := Claim7.holds Tryz.pinned (.plain (OpenSpec.ofChange procedureMixedSpec)) procedureMixedCard

/-- THE SECOND FORM's CARD OF 'yardsticklaw09.ProcedureMatchesReference'. -/
def procedureMatchesReferenceUptoCard : Claim7 := { stood := { row := procedureMatchesReferenceUptoRow, standIns := [], harness := (true, "9f1a36e7de2ab6ccd80b4fab6e2b1b59e4f1fe447ed4ba99ec0d72dc669282af"), looks := true }, kinds := [], alts := [], laidByText := true, laidKinds := [.data, .data, .data, .data, .sentinel, .sentinel, .sentinel, .pinned], laidTests := true, laidLooks := .later }
def ProcedureMatchesReferenceUptoCardSaid : Prop := Claim7.holds Tryz.pinned (.plain (OpenSpec.upto procedureMatchesReferenceSpec)) procedureMatchesReferenceUptoCard

/-- THE SECOND FORM's CARD OF 'yardsticklaw09.ProcedureUnits'. -/
def procedureUnitsUptoCard : Claim7 := { stood := { row := procedureUnitsUptoRow, standIns := [], harness := (true, "9f1a36e7de2ab6ccd80b4fab6e2b1b59e4f1fe447ed4ba99ec0d72dc669282af"), looks := true }, kinds := [], alts := [], laidByText := true, laidKinds := [.data, .data, .data, .data, .sentinel, .sentinel, .sentinel, .pinned], laidTests := true, laidLooks := .later }
def ProcedureUnitsUptoCardSaid : Prop := Claim7.holds Tryz.pinned (.plain (OpenSpec.upto procedureUnitsSpec)) procedureUnitsUptoCard

/-- THE SECOND FORM's CARD OF 'yardsticklaw09.ProcedureBeginnings'. -/
def procedureBeginningsUptoCard : Claim7 := { stood := { row := procedureBeginningsUptoRow, standIns := [], harness := (true, "9f1a36e7de2ab6ccd80b4fab6e2b1b59e4f1fe447ed4ba99ec0d72dc669282af"), looks := true }, kinds := [], alts := [], laidByText := true, laidKinds := [.data, .data, .data, .data, .sentinel, .sentinel, .sentinel, .pinned], laidTests := true, laidLooks := .later }
def ProcedureBeginningsUptoCardSaid : Prop := Claim7.holds Tryz.pinned (.plain (OpenSpec.upto procedureBeginningsSpec)) procedureBeginningsUptoCard

/-- THE SECOND FORM's CARD OF 'yardsticklaw09.ProcedureMixed'. -/
def procedureMixedUptoCard : Claim7 := { stood := { row := procedureMixedUptoRow, standIns := [], harness := (true, "9f1a36e7de2ab6ccd80b4fab6e2b1b59e4f1fe447ed4ba99ec0d72dc669282af"), looks := true }, kinds := [], alts := [], laidByText := true, laidKinds := [.data, .data, .data, .data, .sentinel, .sentinel, .sentinel, .pinned], laidTests := true, laidLooks := .later }
def ProcedureMixedUptoCardSaid : Prop := Claim7.holds Tryz.pinned (.plain (OpenSpec.upto procedureMixedSpec)) procedureMixedUptoCard
end Rows
end Go.Proofs.YtdbnankjpnpojaaGreatDoor
