/-
  DERIVED. GIVEN WITH THE SEED: THE CARDS: each row of YtffghgpkindjpaaGreatDoorRows.lean that lists a variable, with what it lists TIED to the program's text (the seventh form; the later family's looks); each row that meets fmt, with fmt's text TOLD by the authors' own Lean function (tested against real Go, not proved from fmt's source: count such statements apart). THE CARD IS WHAT COUNTS. Prove the row's statement (the work); the ties are given (YtffghgpkindjpaaGreatDoorTie.lean); close each card by the builder's one call (the guide's Derived/Test/ToyasCard.lean, 'card_holds'). Laid BY PROGRAM, IN A SANDBOX (cutbox-door.mjs). By AI agents, Wed Nov 11 2026. No macro, syntax, notation, axiom, sorry.
-/
import Derived.Test.YtffghgpkindjpaaGreatDoorRows
import GoSem.ClaimSeven
namespace Go.Proofs.YtffghgpkindjpaaGreatDoor
namespace Rows

/-- THE TIED CARD OF 'yardsticklaw09.ProcedureEnclosed'. -/
def procedureEnclosedCard : Claim7 := { stood := { row := procedureEnclosedRow, standIns := [], harness := (true, "93ca87a67c61f8548cb2612046e247ea843116019f73599101766a00aac2b8cb"), looks := true }, kinds := [], alts := [], laidByText := true, laidKinds := [.data, .data, .data, .data, .sentinel, .sentinel, .sentinel, .pinned], laidTests := true, laidLooks := .later }
def ProcedureEnclosedCardSaid : Prop := Claim7.holds Tryz.pinned (.plain (OpenSpec.ofChange procedureEnclosedSpec)) procedureEnclosedCard

/-- THE SECOND FORM's CARD OF 'yardsticklaw09.ProcedureEnclosed'. -/
def procedureEnclosedUptoCard : Claim7 := { stood := { row := procedureEnclosedUptoRow, standIns := [], harness := (true, "93ca87a67c61f8548cb2612046e247ea843116019f73599101766a00aac2b8cb"), looks := true }, kinds := [], alts := [], laidByText := true, laidKinds := [.data, .data, .data, .data, .sentinel, .sentinel, .sentinel, .pinned], laidTests := true, laidLooks := .later }
def ProcedureEnclosedUptoCardSaid : Prop := Claim7.holds Tryz.pinned (.plain (OpenSpec.upto procedureEnclosedSpec)) procedureEnclosedUptoCard
end Rows
end Go.Proofs.YtffghgpkindjpaaGreatDoor
