/-
  DERIVED. GIVEN WITH THE SEED: THE CARDS: each row of YtahblkeackebaaaGreatDoorRows.lean that lists a variable, with what it lists TIED to the program's text (the seventh form; the later family's looks); each row that meets fmt, with fmt's text TOLD by the authors' own Lean function (tested against real Go, not proved from fmt's source: count such statements apart). THE CARD IS WHAT COUNTS. Prove the row's statement (the work); the ties are given (YtahblkeackebaaaGreatDoorTie.lean); close each card by the builder's one call (the guide's Derived/Test/ToyasCard.lean, 'card_holds'). Laid BY PROGRAM, IN A SANDBOX (cutbox-door.mjs). By AI agents, Wed Nov 11 2026. No macro, syntax, notation, axiom, sorry.
-/
import Derived.Test.YtahblkeackebaaaGreatDoorRows
import GoSem.ClaimSeven
namespace Go.Proofs.YtahblkeackebaaaGreatDoor
namespace Rows

/-- THE TIED CARD OF 'yardsticklaw10.DeriveDual'. -/
def deriveDualCard : Claim7 := { stood := { row := deriveDualRow, standIns := [], harness := (true, "6e1de77bf6a58dba9ed16a71bddf5c6d86bd67ef07e22f1af5e2887d58ef3691"), looks := true }, kinds := [], alts := [], laidByText := true, laidKinds := [.data, .data, .data, .data, .sentinel, .sentinel, .pinned], laidTests := true, laidLooks := .later }
def DeriveDualCardSaid : Prop := Claim7.holds Tryz.pinned (.plain (OpenSpec.ofChange deriveDualSpec)) deriveDualCard

/-- THE TIED CARD OF 'yardsticklaw10.DeriveOrder'. -/
def deriveOrderCard : Claim7 := { stood := { row := deriveOrderRow, standIns := [], harness := (true, "6e1de77bf6a58dba9ed16a71bddf5c6d86bd67ef07e22f1af5e2887d58ef3691"), looks := true }, kinds := [], alts := [], laidByText := true, laidKinds := [.data, .data, .data, .data, .sentinel, .sentinel, .pinned], laidTests := true, laidLooks := .later }
def DeriveOrderCardSaid : Prop := Claim7.holds Tryz.pinned (.plain (OpenSpec.ofChange deriveOrderSpec)) deriveOrderCard

/-- THE TIED CARD OF 'yardsticklaw10.DeriveDepends'. -/
def deriveDependsCard : Claim7 := { stood := { row := deriveDependsRow, standIns := [], harness := (true, "6e1de77bf6a58dba9ed16a71bddf5c6d86bd67ef07e22f1af5e2887d58ef3691"), looks := true }, kinds := [], alts := [], laidByText := true, laidKinds := [.data, .data, .data, .data, .sentinel, .sentinel, .pinned], laidTests := true, laidLooks := .later }
def DeriveDependsCardSaid : Prop := Claim7.holds Tryz.pinned (.plain (OpenSpec.ofChange deriveDependsSpec)) deriveDependsCard

/-- THE SECOND FORM's CARD OF 'yardsticklaw10.DeriveDual'. -/
def deriveDualUptoCard : Claim7 := { stood := { row := deriveDualUptoRow, standIns := [], harness := (true, "6e1de77bf6a58dba9ed16a71bddf5c6d86bd67ef07e22f1af5e2887d58ef3691"), looks := true }, kinds := [], alts := [], laidByText := true, laidKinds := [.data, .data, .data, .data, .sentinel, .sentinel, .pinned], laidTests := true, laidLooks := .later }
def DeriveDualUptoCardSaid : Prop := Claim7.holds Tryz.pinned (.plain (OpenSpec.upto deriveDualSpec)) deriveDualUptoCard

/-- THE SECOND FORM's CARD OF 'yardsticklaw10.DeriveOrder'. -/
def deriveOrderUptoCard : Claim7 := { stood := { row := deriveOrderUptoRow, standIns := [], harness := (true, "6e1de77bf6a58dba9ed16a71bddf5c6d86bd67ef07e22f1af5e2887d58ef3691"), looks := true }, kinds := [], alts := [], laidByText := true, laidKinds := [.data, .data, .data, .data, .sentinel, .sentinel, .pinned], laidTests := true, laidLooks := .later }
def DeriveOrderUptoCardSaid : Prop := Claim7.holds Tryz.pinned (.plain (OpenSpec.upto deriveOrderSpec)) deriveOrderUptoCard

/-- THE SECOND FORM's CARD OF 'yardsticklaw10.DeriveDepends'. -/
def deriveDependsUptoCard : Claim7 := { stood := { row := deriveDependsUptoRow, standIns := [], harness := (true, "6e1de77bf6a58dba9ed16a71bddf5c6d86bd67ef07e22f1af5e2887d58ef3691"), looks := true }, kinds := [], alts := [], laidByText := true, laidKinds := [.data, .data, .data, .data, .sentinel, .sentinel, .pinned], laidTests := true, laidLooks := .later }
def DeriveDependsUptoCardSaid : Prop := Claim7.holds Tryz.pinned (.plain (OpenSpec.upto deriveDependsSpec)) deriveDependsUptoCard
end Rows
end Go.Proofs.YtahblkeackebaaaGreatDoor
