/-
  DERIVED. GIVEN WITH THE SEED: THE CARDS: each row of YtfokhpciehfdnaaGreatDoorRows.lean that lists a variable, with what it lists TIED to the program's text (the seventh form; the later family's looks); each row that meets fmt, with fmt's text TOLD by the authors' own Lean function (tested against real Go, not proved from fmt's source: count such statements apart). THE CARD IS WHAT COUNTS. Prove the row's statement (the work); the ties are given (YtfokhpciehfdnaaGreatDoorTie.lean); close each card by the builder's one call (the guide's Derived/Test/ToyasCard.lean, 'card_holds'). Laid BY PROGRAM, IN A SANDBOX (cutbox-door.mjs). By AI agents, Wed Nov 11 2026. No macro, syntax, notation, axiom, sorry.
-/
import Derived.Test.YtfokhpciehfdnaaGreatDoorRows
import GoSem.ClaimSeven
namespace Go.Proofs.YtfokhpciehfdnaaGreatDoor
namespace Rows

/-- THE TIED CARD OF 'yardsticklaw09.ProcedureMatchesReference'. -/
def procedureMatchesReferenceCard : Claim7 := { stood := { row := procedureMatchesReferenceRow, standIns := [], harness := (true, "263b350ae1bf2edf788222f1f4bfdec9c798e72baef0bd73e50f49e8d40b6a06"), looks := true }, kinds := [], alts := [], laidByText := true, laidKinds := [.data, .data, .data, .data, .sentinel, .sentinel, .sentinel, .pinned], laidTests := true, laidLooks := .later }
def ProcedureMatchesReferenceCardSaid : Prop := Claim7.holds Tryz.pinned (.plain (OpenSpec.ofChange procedureMatchesReferenceSpec)) procedureMatchesReferenceCard

/-- THE SECOND FORM's CARD OF 'yardsticklaw09.ProcedureMatchesReference'. -/
def procedureMatchesReferenceUptoCard : Claim7 := { stood := { row := procedureMatchesReferenceUptoRow, standIns := [], harness := (true, "263b350ae1bf2edf788222f1f4bfdec9c798e72baef0bd73e50f49e8d40b6a06"), looks := true }, kinds := [], alts := [], laidByText := true, laidKinds := [.data, .data, .data, .data, .sentinel, .sentinel, .sentinel, .pinned], laidTests := true, laidLooks := .later }
def ProcedureMatchesReferenceUptoCardSaid : Prop := Claim7.holds Tryz.pinned (.plain (OpenSpec.upto procedureMatchesReferenceSpec)) procedureMatchesReferenceUptoCard
end Rows
end Go.Proofs.YtfokhpciehfdnaaGreatDoor
