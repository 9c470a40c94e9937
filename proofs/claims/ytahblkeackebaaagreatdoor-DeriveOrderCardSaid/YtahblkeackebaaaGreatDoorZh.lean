import Derived.Test.YtahblkeackebaaaGreatDoorZg
import Derived.Test.YtahblkeackebaaaGreatDoorRows
import Derived.Test.YtahblkeackebaaaGreatDoorCards
import Derived.SevenTiedAt
set_option linter.unusedVariables false
set_option linter.unusedSimpArgs false
namespace Go.Proofs.YtahblkeackebaaaGreatDoor
open Go.ChangeShapes Go.WideShapes
theorem RD:Tryz.pinned.checked.prog.funcNamed Rows.deriveOrderRow.func=some 4:=by kernel_rfl
theorem RE:joinedFacts Tryz.pinned.checked.prog 4 Tryz.f4 Rows.deriveOrderSpec Rows.deriveOrderRow=true:=by kernel_rfl
end Go.Proofs.YtahblkeackebaaaGreatDoor
