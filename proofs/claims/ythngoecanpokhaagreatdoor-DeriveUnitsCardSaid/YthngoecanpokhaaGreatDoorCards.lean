/-
  DERIVED. GIVEN WITH THE SEED: THE CARDS: each row of YthngoecanpokhaaGreatDoorRows.lean that lists a variable, with what it lists TIED to the program's text (the seventh form; the later family's looks); each row that meets fmt, with fmt's text TOLD by the authors' own Lean function (tested against real Go, not proved from fmt's source: count such statements apart). THE CARD IS WHAT COUNTS. Prove the row's statement (the work); the ties are given (YthngoecanpokhaaGreatDoorTie.lean); close each card by the builder's one call (the guide's Derived/Test/ToyasCard.lean, 'card_holds'). Laid BY PROGRAM, IN A SANDBOX (cutbox-door.mjs). By AI agents, Wed Nov 11 2026. No macro, syntax, notation, axiom, sorry.
-/
import Derived.Test.YthngoecanpokhaaGreatDoorRows
import GoSem.ClaimSeven
namespace Go.Proofs.YthngoecanpokhaaGreatDoor
namespace Rows

/-- THE TIED CARD OF 'yardsticklaw10.DeriveUnits'. -/
def deriveUnitsCard : Claim7 := { stood := { row := deriveUnitsRow, standIns := [], harness := (true, "9bdf1823e5d49ffc62e7b26300fdbeda4c502e774e5ddb60ee68aa2c99b0eee3"), looks := true }, kinds := [], alts := [], laidByText := true, laidKinds := [.data, .data, .data, .data, .sentinel, .sentinel, .pinned], laidTests := true, laidLooks := .later }
def DeriveUnitsCardSaid : Prop := Claim7.holds Tryz.pinned (.plain (OpenSpec.ofChange deriveUnitsSpec)) deriveUnitsCard

/-- THE TIED CARD OF 'yardsticklaw10.DeriveSimplify'. -/
def deriveSimplifyCard : Claim7 := { stood := { row := deriveSimplifyRow, standIns := [], harness := (true, "9bdf1823e5d49ffc62e7b26300fdbeda4c502e774e5ddb60ee68aa2c99b0eee3"), looks := true }, kinds := [], alts := [], laidByText := true, laidKinds := [.data, .data, .data, .data, .sentinel, .sentinel, .pinned], laidTests := true, laidLooks := .later }
def DeriveSimplifyCardSaid : Prop := Claim7.holds Tryz.pinned (.plain (OpenSpec.ofChange deriveSimplifySpec)) deriveSimplifyCard

/-- THE TIED CARD OF 'yardsticklaw09.ProcedureMatchesReference'. -/
def procedureMatchesReferenceCard : Claim7 := { stood := { row := procedureMatchesReferenceRow, standIns := [], harness := (true, "9bdf1823e5d49ffc62e7b26300fdbeda4c502e774e5ddb60ee68aa2c99b0eee3"), looks := true }, kinds := [], alts := [], laidByText := true, laidKinds := [.data, .data, .data, .data, .sentinel, .sentinel, .sentinel, .pinned], laidTests := true, laidLooks := .later }
def ProcedureMatchesReferenceCardSaid : Prop := Claim7.holds Tryz.pinned (.plain (OpenSpec.ofChange procedureMatchesReferenceSpec)) procedureMatchesReferenceCard

/-- THE TIED CARD OF 'yardsticklaw09.ProcedureUnits'. -/
def procedureUnitsCard : Claim7 := { stood := { row := procedureUnitsRow, standIns := [], harness := (true, "9bdf1823e5d49ffc62e7b26300fdbeda4c502e774e5ddb60ee68aa2c99b0eee3"), looks := true }, kinds := [], alts := [], laidByText := true, laidKinds := [.data, .data, .data, .data, .sentinel, .sentinel, .sentinel, .pinned], laidTests := true, laidLooks := .later }
def ProcedureUnitsCardSaid : Prop := Claim7.holds Tryz.pinned (.plain (OpenSpec.ofChange procedureUnitsSpec)) procedureUnitsCard

/-- THE TIED CARD OF 'yardsticklaw09.ProcedureBeginnings'. -/
def procedureBeginningsCard : Claim7 := { stood := { row := procedureBeginningsRow, standIns := [], harness := (true, "9bdf1823e5d49ffc62e7b26300fdbeda4c502e774e5ddb60ee68aa2c99b0eee3"), looks := true }, kinds := [], alts := [], laidByText := true, laidKinds := [.data, .data, .data, .data, .sentinel, .sentinel, .sentinel, .pinned], laidTests := true, laidLooks := .later }
def ProcedureBeginningsCardSaid : Prop := Claim7.holds Tryz.pinned (.plain (OpenSpec.ofChange procedureBeginningsSpec)) procedureBeginningsCard

/-- THE TIED CARD OF 'yardsticklaw09.ProcedureMixed'. -/
def procedureMixedCard : Claim7 := { stood := { row := procedureMixedRow, standIns := [], harness := (true, "9bdf1823e5d49ffc62e7b26300fdbeda4c502e774e5ddb60ee68aa2c99b0eee3"), looks := true }, kinds := [], alts := [], laidByText := true, laidKinds := [.data, .data, .data, .data, .sentinel, .sentinel, .sentinel, .pinned], laidTests := true, laidLooks := .later }
def ProcedureMixedCardSaid : Prop := Claim7.holds Tryz.pinned (.plain (OpenSpec.ofChange procedureMixedSpec)) procedureMixedCard

/-- THE SECOND FORM's CARD OF 'yardsticklaw10.DeriveUnits'. -/
def deriveUnitsUptoCard : Claim7 := { stood := { row := deriveUnitsUptoRow, standIns := [], harness := (true, "9bdf1823e5d49ffc62e7b26300fdbeda4c502e774e5ddb60ee68aa2c99b0eee3"), looks := true }, kinds := [], alts := [], laidByText := true, laidKinds := [.data, .data, .data, .data, .sentinel, .sentinel, .pinned], laidTests := true, laidLooks := .later }
def DeriveUnitsUptoCardSaid : Prop := Claim7.holds Tryz.pinned (.plain (OpenSpec.upto deriveUnitsSpec)) deriveUnitsUptoCard

/-- THE SECOND FORM's CARD OF 'yardsticklaw10.DeriveSimplify'. -/
def deriveSimplifyUptoCard : Claim7 := { stood := { row := deriveSimplifyUptoRow, standIns := [], harness := (true, "9bdf1823e5d49ffc62e7b26300fdbeda4c502e774e5ddb60ee68aa2c99b0eee3"), looks := true }, kinds := [], alts := [], laidByText := true, laidKinds := [.data, .data, .data, .data, .sentinel, .sentinel, .pinned], laidTests := true, laidLooks := .later }
def DeriveSimplifyUptoCardSaid : Prop := Claim7.holds Tryz.pinned (.plain (OpenSpec.upto deriveSimplifySpec)) deriveSimplifyUptoCard

/-- THE SECOND FORM's CARD OF 'yardsticklaw09.ProcedureMatchesReference'. -/
def procedureMatchesReferenceUptoCard : Claim7 := { stood := { row := procedureMatchesReferenceUptoRow, standIns := [], harness := (true, "9bdf1823e5d49ffc62e7b26300fdbeda4c502e774e5ddb60ee68aa2c99b0eee3"), looks := true }, kinds := [], alts := [], laidByText := true, laidKinds := [.data, .data, .data, .data, .sentinel, .sentinel, .sentinel, .pinned], laidTests := true, laidLooks := .later }
def ProcedureMatchesReferenceUptoCardSaid : Prop := Claim7.holds Tryz.pinned (.plain (OpenSpec.upto procedureMatchesReferenceSpec)) procedureMatchesReferenceUptoCard

/-- THE SECOND FORM's CARD OF 'yardsticklaw09.ProcedureUnits'. -/
def procedureUnitsUptoCard : Claim7 := { stood := { row := procedureUnitsUptoRow, standIns := [], harness := (true, "9bdf1823e5d49ffc62e7b26300fdbeda4c502e774e5ddb60ee68aa2c99b0eee3"), looks := true }, kinds := [], alts := [], laidByText := true, laidKinds := [.data, .data, .data, .data, .sentinel, .sentinel, .sentinel, .pinned], laidTests := true, laidLooks := .later }
def ProcedureUnitsUptoCardSaid : Prop := Claim7.holds Tryz.pinned (.plain (OpenSpec.upto procedureUnitsSpec)) procedureUnitsUptoCard

/-- THE SECOND FORM's CARD OF 'yardsticklaw09.ProcedureBeginnings'. -/
def procedureBeginningsUptoCard : Claim7 := { stood := { row := procedureBeginningsUptoRow, standIns := [], harness := (true, "9bdf1823e5d49ffc62e7b26300fdbeda4c502e774e5ddb60ee68aa2c99b0eee3"), looks := true }, kinds := [], alts := [], laidByText := true, laidKinds := [.data, .data, .data, .data, .sentinel, .sentinel, .sentinel, .pinned], laidTests := true, laidLooks := .later }
def ProcedureBeginningsUptoCardSaid : Prop := Claim7.holds Tryz.pinned (.plain (OpenSpec.upto procedureBeginningsSpec)) procedureBeginningsUptoCard

/-- THE SECOND FORM's CARD OF 'yardsticklaw09.ProcedureMixed'. -/
def procedureMixedUptoCard : Claim7 := { stood := { row := procedureMixedUptoRow, standIns := [], harness := (true, "9bdf1823e5d49ffc62e7b26300fdbeda4c502e774e5ddb60ee68aa2c99b0eee3"), looks := true }, kinds := [], alts := [], laidByText := true, laidKinds := [.data, .data, .data, .data, .sentinel, .sentinel, .sentinel, .pinned], laidTests := true, laidLooks := .later }
def ProcedureMixedUptoCardSaid : Prop := Claim7.holds Tryz.pinned (.plain (OpenSpec.upto procedureMixedSpec)) procedureMixedUptoCard
end Rows
end Go.Proofs.YthngoecanpokhaaGreatDoor
