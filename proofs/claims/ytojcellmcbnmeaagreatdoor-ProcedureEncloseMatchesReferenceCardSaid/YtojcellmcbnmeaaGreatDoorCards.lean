/-
  DERIVED. GIVEN WITH THE SEED: THE CARDS: each row of YtojcellmcbnmeaaGreatDoorRows.lean that lists a variable, with what it lists TIED to the program's text (the seventh form; the later family's looks); each row that meets fmt, with fmt's text TOLD by the authors' own Lean function (tested against real Go, not proved from fmt's source: count such statements apart). THE CARD IS WHAT COUNTS. Prove the row's statement (the work); the ties are given (YtojcellmcbnmeaaGreatDoorTie.lean); close each card by the builder's one call (the guide's Derived/Test/ToyasCard.lean, 'card_holds'). Laid BY PROGRAM, IN A SANDBOX (cutbox-door.mjs). By AI agents, Wed Nov 11 2026. No macro, syntax, notation, axiom, sorry.
-/
import Derived.Test.YtojcellmcbnmeaaGreatDoorRows
import GoSem.ClaimSeven
namespace Go.Proofs.YtojcellmcbnmeaaGreatDoor
namespace Rows

/-- THE TIED CARD OF 'yardsticklaw09.ProcedureEncloseMatchesReference'. -/
def procedureEncloseMatchesReferenceCard : Claim7 := { stood := { row := procedureEncloseMatchesReferenceRow, standIns := [], harness := (true, "f0a58288e2341ca13d1d16c4f96fcda781895e810dd174e72271de611c6dd933"), looks := true }, kinds := [], alts := [], laidByText := true, laidKinds := [.data, .data, .data, .data, .sentinel, .sentinel, .sentinel, .pinned], laidTests := true, laidLooks := .later }
def ProcedureEncloseMatchesReferenceCardSaid : Prop := Claim7.holds Tryz.pinned (.plain (OpenSpec.ofChange procedureEncloseMatchesReferenceSpec)) procedureEncloseMatchesReferenceCard

/-- THE SECOND FORM's CARD OF 'yardsticklaw09.ProcedureEncloseMatchesReference'. -/
def procedureEncloseMatchesReferenceUptoCard : Claim7 := { stood := { row := procedureEncloseMatchesReferenceUptoRow, standIns := [], harness := (true, "f0a58288e2341ca13d1d16c4f96fcda781895e810dd174e72271de611c6dd933"), looks := true }, kinds := [], alts := [], laidByText := true, laidKinds := [.data, .data, .data, .data, .sentinel, .sentinel, .sentinel, .pinned], laidTests := true, laidLooks := .later }
def ProcedureEncloseMatchesReferenceUptoCardSaid : Prop := Claim7.holds Tryz.pinned (.plain (OpenSpec.upto procedureEncloseMatchesReferenceSpec)) procedureEncloseMatchesReferenceUptoCard
end Rows
end Go.Proofs.YtojcellmcbnmeaaGreatDoor
