/-
  DERIVED. GIVEN WITH THE SEED: THE CARDS: each row of YtdjfpjmijhjmpaaGreatDoorRows.lean that lists a variable, with what it lists TIED to the program's text (the seventh form; the later family's looks); each row that meets fmt, with fmt's text TOLD by the authors' own Lean function (tested against real Go, not proved from fmt's source: count such statements apart). THE CARD IS WHAT COUNTS. Prove the row's statement (the work); the ties are given (YtdjfpjmijhjmpaaGreatDoorTie.lean); close each card by the builder's one call (the guide's Derived/Test/ToyasCard.lean, 'card_holds'). Laid BY PROGRAM, IN A SANDBOX (cutbox-door.mjs). By AI agents, Wed Nov 11 2026. No macro, syntax, notation, axiom, sorry.
-/
import Derived.Test.YtdjfpjmijhjmpaaGreatDoorRows
import GoSem.ClaimSeven
namespace Go.Proofs.YtdjfpjmijhjmpaaGreatDoor
namespace Rows

/-- THE TIED CARD OF 'yardsticklaw11.PlanTextMatchesReference'. -/
def planTextMatchesReferenceCard : Claim7 := { stood := { row := planTextMatchesReferenceRow, standIns := [], harness := (true, "dcea006fbfd642c442db4db7f388d0f54be81f02d623bf586508eb5c2cb9bbf0"), looks := true }, kinds := [], alts := [], laidByText := true, laidKinds := [.data, .data, .data, .data, .data, .data, .data, .sentinel, .sentinel, .sentinel, .sentinel, .sentinel, .pinned], laidTests := true, laidLooks := .later }
def PlanTextMatchesReferenceCardSaid : Prop := Claim7.holds Tryz.pinned (.plain (OpenSpec.ofChange planTextMatchesReferenceSpec)) planTextMatchesReferenceCard

/-- THE TIED CARD OF 'yardsticklaw11.PlanTogether'. -/
def planTogetherCard : Claim7 := { stood := { row := planTogetherRow, standIns := [], harness := (true, "dcea006fbfd642c442db4db7f388d0f54be81f02d623bf586508eb5c2cb9bbf0"), looks := true }, kinds := [], alts := [], laidByText := true, laidKinds := [.data, .data, .data, .data, .data, .data, .sentinel, .sentinel, .sentinel, .sentinel, .sentinel, .pinned], laidTests := true, laidLooks := .later }
def PlanTogetherCardSaid : Prop := Claim7.holds Tryz.pinned (.plain (OpenSpec.ofChange planTogetherSpec)) planTogetherCard

/-- THE TIED CARD OF 'yardsticklaw11.PlanRoundTrip'. -/
def planRoundTripCard : Claim7 := { stood := { row := planRoundTripRow, standIns := [], harness := (true, "dcea006fbfd642c442db4db7f388d0f54be81f02d623bf586508eb5c2cb9bbf0"), looks := true }, kinds := [], alts := [], laidByText := true, laidKinds := [.data, .data, .data, .data, .data, .data, .data, .sentinel, .sentinel, .sentinel, .sentinel, .sentinel, .pinned], laidTests := true, laidLooks := .later }
def PlanRoundTripCardSaid : Prop := Claim7.holds Tryz.pinned (.plain (OpenSpec.ofChange planRoundTripSpec)) planRoundTripCard

/-- THE TIED CARD OF 'yardsticklaw11.PlanExact'. -/
def planExactCard : Claim7 := { stood := { row := planExactRow, standIns := [], harness := (true, "dcea006fbfd642c442db4db7f388d0f54be81f02d623bf586508eb5c2cb9bbf0"), looks := true }, kinds := [], alts := [], laidByText := true, laidKinds := [.data, .data, .data, .data, .sentinel, .sentinel, .sentinel, .sentinel, .sentinel, .pinned], laidTests := true, laidLooks := .later }
def PlanExactCardSaid : Prop := Claim7.holds Tryz.pinned (.plain (OpenSpec.ofChange planExactSpec)) planExactCard

/-- THE SECOND FORM's CARD OF 'yardsticklaw11.PlanTextMatchesReference'. -/
def planTextMatchesReferenceUptoCard : Claim7 := { stood := { row := planTextMatchesReferenceUptoRow, standIns := [], harness := (true, "dcea006fbfd642c442db4db7f388d0f54be81f02d623bf586508eb5c2cb9bbf0"), looks := true }, kinds := [], alts := [], laidByText := true, laidKinds := [.data, .data, .data, .data, .data, .data, .data, .sentinel, .sentinel, .sentinel, .sentinel, .sentinel, .pinned], laidTests := true, laidLooks := .later }
def PlanTextMatchesReferenceUptoCardSaid : Prop := Claim7.holds Tryz.pinned (.plain (OpenSpec.upto planTextMatchesReferenceSpec)) planTextMatchesReferenceUptoCard

/-- THE SECOND FORM's CARD OF 'yardsticklaw11.PlanTogether'. -/
def planTogetherUptoCard : Claim7 := { stood := { row := planTogetherUptoRow, standIns := [], harness := (true, "dcea006fbfd642c442db4db7f388d0f54be81f02d623bf586508eb5c2cb9bbf0"), looks := true }, kinds := [], alts := [], laidByText := true, laidKinds := [.data, .data, .data, .data, .data, .data, .sentinel, .sentinel, .sentinel, .sentinel, .sentinel, .pinned], laidTests := true, laidLooks := .later }
def PlanTogetherUptoCardSaid : Prop := Claim7.holds Tryz.pinned (.plain (OpenSpec.upto planTogetherSpec)) planTogetherUptoCard

/-- THE SECOND FORM's CARD OF 'yardsticklaw11.PlanRoundTrip'. -/
def planRoundTripUptoCard : Claim7 := { stood := { row := planRoundTripUptoRow, standIns := [], harness := (true, "dcea006fbfd642c442db4db7f388d0f54be81f02d623bf586508eb5c2cb9bbf0"), looks := true }, kinds := [], alts := [], laidByText := true, laidKinds := [.data, .data, .data, .data, .data, .data, .data, .sentinel, .sentinel, .sentinel, .sentinel, .sentinel, .pinned], laidTests := true, laidLooks := .later }
def PlanRoundTripUptoCardSaid : Prop := Claim7.holds Tryz.pinned (.plain (OpenSpec.upto planRoundTripSpec)) planRoundTripUptoCard

/-- THE SECOND FORM's CARD OF 'yardsticklaw11.PlanExact'. -/
def planExactUptoCard : Claim7 := { stood := { row := planExactUptoRow, standIns := [], harness := (true, "dcea006fbfd642c442db4db7f388d0f54be81f02d623bf586508eb5c2cb9bbf0"), looks := true }, kinds := [], alts := [], laidByText := true, laidKinds := [.data, .data, .data, .data, .sentinel, .sentinel, .sentinel, .sentinel, .sentinel, .pinned], laidTests := true, laidLooks := .later }
def PlanExactUptoCardSaid : Prop := Claim7.holds Tryz.pinned (.plain (OpenSpec.upto planExactSpec)) planExactUptoCard
end Rows
end Go.Proofs.YtdjfpjmijhjmpaaGreatDoor
