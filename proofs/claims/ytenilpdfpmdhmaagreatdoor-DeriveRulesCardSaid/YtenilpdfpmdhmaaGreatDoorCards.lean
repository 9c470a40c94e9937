/-
  DERIVED. GIVEN WITH THE SEED: THE CARDS: each row of YtenilpdfpmdhmaaGreatDoorRows.lean that lists a variable, with what it lists TIED to the program's text (the seventh form; the later family's looks); each row that meets fmt, with fmt's text TOLD by the authors' own Lean function (tested against real Go, not proved from fmt's source: count such statements apart). THE CARD IS WHAT COUNTS. Prove the row's statement (the work); the ties are given (YtenilpdfpmdhmaaGreatDoorTie.lean); close each card by the builder's one call (the guide's Derived/Test/ToyasCard.lean, 'card_holds'). Laid BY PROGRAM, IN A SANDBOX (cutbox-door.mjs). By AI agents, Wed Nov 11 2026. No macro, syntax, notation, axiom, sorry.
-/
import Derived.Test.YtenilpdfpmdhmaaGreatDoorRows
import GoSem.ClaimSeven
namespace Go.Proofs.YtenilpdfpmdhmaaGreatDoor
namespace Rows

/-- THE TIED CARD OF 'yardsticklaw10.DeriveMatchesReference'. -/
def deriveMatchesReferenceCard : Claim7 := { stood := { row := deriveMatchesReferenceRow, standIns := [], harness := (true, "4387ad36c9e2fc21052478127ecba499621e5e56e6a9bd7e6d8455581129f433"), looks := true }, kinds := [], alts := [], laidByText := true, laidKinds := [.data, .data, .data, .data, .sentinel, .sentinel, .pinned], laidTests := true, laidLooks := .later }
def DeriveMatchesReferenceCardSaid : Prop := Claim7.holds Tryz.pinned (.plain (OpenSpec.ofChange deriveMatchesReferenceSpec)) deriveMatchesReferenceCard

/-- THE TIED CARD OF 'yardsticklaw10.DeriveDual'. -/
def deriveDualCard : Claim7 := { stood := { row := deriveDualRow, standIns := [], harness := (true, "4387ad36c9e2fc21052478127ecba499621e5e56e6a9bd7e6d8455581129f433"), looks := true }, kinds := [], alts := [], laidByText := true, laidKinds := [.data, .data, .data, .data, .sentinel, .sentinel, .pinned], laidTests := true, laidLooks := .later }
def DeriveDualCardSaid : Prop := Claim7.holds Tryz.pinned (.plain (OpenSpec.ofChange deriveDualSpec)) deriveDualCard

/-- THE TIED CARD OF 'yardsticklaw10.DeriveUnits'. -/
def deriveUnitsCard : Claim7 := { stood := { row := deriveUnitsRow, standIns := [], harness := (true, "4387ad36c9e2fc21052478127ecba499621e5e56e6a9bd7e6d8455581129f433"), looks := true }, kinds := [], alts := [], laidByText := true, laidKinds := [.data, .data, .data, .data, .sentinel, .sentinel, .pinned], laidTests := true, laidLooks := .later }
def DeriveUnitsCardSaid : Prop := Claim7.holds Tryz.pinned (.plain (OpenSpec.ofChange deriveUnitsSpec)) deriveUnitsCard

/-- THE TIED CARD OF 'yardsticklaw10.DeriveOrder'. -/
def deriveOrderCard : Claim7 := { stood := { row := deriveOrderRow, standIns := [], harness := (true, "4387ad36c9e2fc21052478127ecba499621e5e56e6a9bd7e6d8455581129f433"), looks := true }, kinds := [], alts := [], laidByText := true, laidKinds := [.data, .data, .data, .data, .sentinel, .sentinel, .pinned], laidTests := true, laidLooks := .later }
def DeriveOrderCardSaid : Prop := Claim7.holds Tryz.pinned (.plain (OpenSpec.ofChange deriveOrderSpec)) deriveOrderCard

/-- THE TIED CARD OF 'yardsticklaw10.DeriveDepends'. -/
def deriveDependsCard : Claim7 := { stood := { row := deriveDependsRow, standIns := [], harness := (true, "4387ad36c9e2fc21052478127ecba499621e5e56e6a9bd7e6d8455581129f433"), looks := true }, kinds := [], alts := [], laidByText := true, laidKinds := [.data, .data, .data, .data, .sentinel, .sentinel, .pinned], laidTests := true, laidLooks := .later }
def DeriveDependsCardSaid : Prop := Claim7.holds Tryz.pinned (.plain (OpenSpec.ofChange deriveDependsSpec)) deriveDependsCard

/-- THE TIED CARD OF 'yardsticklaw10.DeriveRules'. -/
def deriveRulesCard : Claim7 := { stood := { row := deriveRulesRow, standIns := [], harness := (true, "4387ad36c9e2fc21052478127ecba499621e5e56e6a9bd7e6d8455581129f433"), looks := true }, kinds := [], alts := [], laidByText := true, laidKinds := [.data, .data, .data, .data, .sentinel, .sentinel, .pinned], laidTests := true, laidLooks := .later }
def DeriveRulesCardSaid : Prop := Claim7.holds Tryz.pinned (.plain (OpenSpec.ofChange deriveRulesSpec)) deriveRulesCard

/-- THE TIED CARD OF 'yardsticklaw10.DeriveSimplify'. -/
def deriveSimplifyCard : Claim7 := { stood := { row := deriveSimplifyRow, standIns := [], harness := (true, "4387ad36c9e2fc21052478127ecba499621e5e56e6a9bd7e6d8455581129f433"), looks := true }, kinds := [], alts := [], laidByText := true, laidKinds := [.data, .data, .data, .data, .sentinel, .sentinel, .pinned], laidTests := true, laidLooks := .later }
def DeriveSimplifyCardSaid : Prop := Claim7.holds Tryz.pinned (.plain (OpenSpec.ofChange deriveSimplifySpec)) deriveSimplifyCard

/-- THE SECOND FORM's CARD OF 'yardsticklaw10.DeriveMatchesReference'. -/
def deriveMatchesReferenceUptoCard : Claim7 := { stood := { row := deriveMatchesReferenceUptoRow, standIns := [], harness := (true, "4387ad36c9e2fc21052478127ecba499621e5e56e6a9bd7e6d8455581129f433"), looks := true }, kinds := [], alts := [], laidByText := true, laidKinds := [.data, .data, .data, .data, .sentinel, .sentinel, .pinned], laidTests := true, laidLooks := .later }
def DeriveMatchesReferenceUptoCardSaid : Prop := Claim7.holds Tryz.pinned (.plain (OpenSpec.upto deriveMatchesReferenceSpec)) deriveMatchesReferenceUptoCard

/-- THE SECOND FORM's CARD OF 'yardsticklaw10.DeriveDual'. -/
def deriveDualUptoCard : Claim7 := { stood := { row := deriveDualUptoRow, standIns := [], harness := (true, "4387ad36c9e2fc21052478127ecba499621e5e56e6a9bd7e6d8455581129f433"), looks := true }, kinds := [], alts := [], laidByText := true, laidKinds := [.data, .data, .data, .data, .sentinel, .sentinel, .pinned], laidTests := true, laidLooks := .later }
def DeriveDualUptoCardSaid : Prop := Claim7.holds Tryz.pinned (.plain (OpenSpec.upto deriveDualSpec)) deriveDualUptoCard

/-- THE SECOND FORM's CARD OF 'yardsticklaw10.DeriveUnits'. -/
def deriveUnitsUptoCard : Claim7 := { stood := { row := deriveUnitsUptoRow, standIns := [], harness := (true, "4387ad36c9e2fc21052478127ecba499621e5e56e6a9bd7e6d8455581129f433"), looks := true }, kinds := [], alts := [], laidByText := true, laidKinds := [.data, .data, .data, .data, .sentinel, .sentinel, .pinned], laidTests := true, laidLooks := .later }
def DeriveUnitsUptoCardSaid : Prop := Claim7.holds Tryz.pinned (.plain (OpenSpec.upto deriveUnitsSpec)) deriveUnitsUptoCard

/-- THE SECOND FORM's CARD OF 'yardsticklaw10.DeriveOrder'. -/
def deriveOrderUptoCard : Claim7 := { stood := { row := deriveOrderUptoRow, standIns := [], harness := (true, "4387ad36c9e2fc21052478127ecba499621e5e56e6a9bd7e6d8455581129f433"), looks := true }, kinds := [], alts := [], laidByText := true, laidKinds := [.data, .data, .data, .data, .sentinel, .sentinel, .pinned], laidTests := true, laidLooks := .later }
def DeriveOrderUptoCardSaid : Prop := Claim7.holds Tryz.pinned (.plain (OpenSpec.upto deriveOrderSpec)) deriveOrderUptoCard

/-- THE SECOND FORM's CARD OF 'yardsticklaw10.DeriveDepends'. -/
def deriveDependsUptoCard : Claim7 := { stood := { row := deriveDependsUptoRow, standIns := [], harness := (true, "4387ad36c9e2fc21052478127ecba499621e5e56e6a9bd7e6d8455581129f433"), looks := true }, kinds := [], alts := [], laidByText := true, laidKinds := [.data, .data, .data, .data, .sentinel, .sentinel, .pinned], laidTests := true, laidLooks := .later }
def DeriveDependsUptoCardSaid : Prop := Claim7.holds Tryz.pinned (.plain (OpenSpec.upto deriveDependsSpec)) deriveDependsUptoCard

/-- THE SECOND FORM's CARD OF 'yardsticklaw10.DeriveRules'. -/
def deriveRulesUptoCard : Claim7 := { stood := { row := deriveRulesUptoRow, standIns := [], harness := (true, "4387ad36c9e2fc21052478127ecba499621e5e56e6a9bd7e6d8455581129f433"), looks := true }, kinds := [], alts := [], laidByText := true, laidKinds := [.data, .data, .data, .data, .sentinel, .sentinel, .pinned], laidTests := true, laidLooks := .later }
def DeriveRulesUptoCardSaid : Prop := Claim7.holds Tryz.pinned (.plain (OpenSpec.upto deriveRulesSpec)) deriveRulesUptoCard

/-- THE SECOND FORM's CARD OF 'yardsticklaw10.DeriveSimplify'. -/
def deriveSimplifyUptoCard : Claim7 := { stood := { row := deriveSimplifyUptoRow, standIns := [], harness := (true, "4387ad36c9e2fc21052478127ecba499621e5e56e6a9bd7e6d8455581129f433"), looks := true }, kinds := [], alts := [], laidByText := true, laidKinds := [.data, .data, .data, .data, .sentinel, .sentinel, .pinned], laidTests := true, laidLooks := .later }
def DeriveSimplifyUptoCardSaid : Prop := Claim7.holds Tryz.pinned (.plain (OpenSpec.upto deriveSimplifySpec)) deriveSimplifyUptoCard
end Rows
end Go.Proofs.YtenilpdfpmdhmaaGreatDoor
