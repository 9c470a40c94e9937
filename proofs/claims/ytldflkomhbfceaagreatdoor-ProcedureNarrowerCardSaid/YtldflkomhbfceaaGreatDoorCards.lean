/-
  DERIVED. GIVEN WITH THE SEED: THE CARDS: each row of YtldflkomhbfceaaGreatDoorRows.lean that lists a variable, with what it lists TIED to the program's text (the seventh form; the later family's looks); each row that meets fmt, with fmt's text TOLD by the authors' own Lean function (tested against real Go, not proved from fmt's source: count such statements apart). THE CARD IS WHAT COUNTS. Prove the row's statement (the work); the ties are given (YtldflkomhbfceaaGreatDoorTie.lean); close each card by the builder's one call (the guide's Derived/Test/ToyasCard.lean, 'card_holds'). Laid BY PROGRAM, IN A SANDBOX (cutbox-door.mjs). By AI agents, Wed Nov 11 2026. No macro, syntax, notation, axiom, sorry.
-/
import Derived.Test.YtldflkomhbfceaaGreatDoorRows
import GoSem.ClaimSeven
namespace Go.Proofs.YtldflkomhbfceaaGreatDoor
namespace Rows

/-- THE TIED CARD OF 'yardsticklaw09.ProcedureNarrower'. -/
def procedureNarrowerCard : Claim7 := { stood := { row := procedureNarrowerRow, standIns := [], harness := (true, "beda82c51995461a6f0bd498ee4aa2662427fad4de2d650e9063b73e8a6001b7"), looks := true }, kinds := [], alts := [], laidByText := true, laidKinds := [.data, .data, .data, .data, .sentinel, .sentinel, .sentinel, .pinned], laidTests := true, laidLooks := .later }
def ProcedureNarrowerCardSaid : Prop := Claim7.holds Tryz.pinned (.plain (OpenSpec.ofChange procedureNarrowerSpec)) procedureNarrowerCard

/-- THE SECOND FORM's CARD OF 'yardsticklaw09.ProcedureNarrower'. -/
def procedureNarrowerUptoCard : Claim7 := { stood := { row := procedureNarrowerUptoRow, standIns := [], harness := (true, "beda82c51995461a6f0bd498ee4aa2662427fad4de2d650e9063b73e8a6001b7"), looks := true }, kinds := [], alts := [], laidByText := true, laidKinds := [.data, .data, .data, .data, .sentinel, .sentinel, .sentinel, .pinned], laidTests := true, laidLooks := .later }
def ProcedureNarrowerUptoCardSaid : Prop := Claim7.holds Tryz.pinned (.plain (OpenSpec.upto procedureNarrowerSpec)) procedureNarrowerUptoCard
end Rows
end Go.Proofs.YtldflkomhbfceaaGreatDoor
