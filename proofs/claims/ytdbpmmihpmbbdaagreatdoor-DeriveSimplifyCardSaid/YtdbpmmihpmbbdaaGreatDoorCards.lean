/-
  DERIVED. GIVEN WITH THE SEED: THE CARDS: each row of YtdbpmmihpmbbdaaGreatDoorRows.lean that lists a variable, with what it lists TIED to the program's text (the seventh form; the later family's looks); each row that meets fmt, with fmt's text TOLD by the authors' own Lean function (tested against real Go, not proved from fmt's source: count such statements apart). THE CARD IS WHAT COUNTS. Prove the row's statement (the work); the ties are given (YtdbpmmihpmbbdaaGreatDoorTie.lean); close each card by the builder's one call (the guide's Derived/Test/ToyasCard.lean, 'card_holds'). Laid BY PROGRAM, IN A SANDBOX (cutbox-door.mjs). By AI agents, Wed Nov 11 2026. No macro, syntax, notation, axiom, sorry.
-/
import Derived.Test.YtdbpmmihpmbbdaaGreatDoorRows
import GoSem.ClaimSeven
namespace Go.Proofs.YtdbpmmihpmbbdaaGreatDoor
namespace Rows

/-- THE TIED CARD OF 'yardsticklaw10.DeriveSimplify'. -/
def deriveSimplifyCard : Claim7 := { stood := { row := deriveSimplifyRow, standIns := [], harness := (true, "fca1050af096126ab51dfcb90556a20147d73f6c92a3e15a00d5a03bf2e8c192"), looks := true }, kinds := [], alts := [], laidByText := true, laidKinds := [.data, .data, .data, .data, .sentinel, .sentinel, .pinned], laidTests := true, laidLooks := .later }
def DeriveSimplifyCardSaid : Prop := Claim7.holds Tryz.pinned (.plain (OpenSpec.ofChange deriveSimplifySpec)) deriveSimplifyCard

/-- THE SECOND FORM's CARD OF 'yardsticklaw10.DeriveSimplify'. -/
def deriveSimplifyUptoCard : Claim7 := { stood := { row := deriveSimplifyUptoRow, standIns := [], harness := (true, "fca1050af096126ab51dfcb90556a20147d73f6c92a3e15a00d5a03bf2e8c192"), looks := true }, kinds := [], alts := [], laidByText := true, laidKinds := [.data, .data, .data, .data, .sentinel, .sentinel, .pinned], laidTests := true, laidLooks := .later }
def DeriveSimplifyUptoCardSaid : Prop := Claim7.holds Tryz.pinned (.plain (OpenSpec.upto deriveSimplifySpec)) deriveSimplifyUptoCard
end Rows
end Go.Proofs.YtdbpmmihpmbbdaaGreatDoor
