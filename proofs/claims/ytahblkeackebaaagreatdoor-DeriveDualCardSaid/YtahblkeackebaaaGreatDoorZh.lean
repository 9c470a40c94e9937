import Derived.Test.YtahblkeackebaaaGreatDoorZg
import Derived.Test.YtahblkeackebaaaGreatDoorRows
import Derived.Test.YtahblkeackebaaaGreatDoorCards
import Derived.SevenTiedAt
set_option linter.unusedVariables false
set_option linter.unusedSimpArgs false
namespace Go.Proofs.YtahblkeackebaaaGreatDoor
open Go.ChangeShapes Go.WideShapes
theorem Ur:Tryz.pinned.checked.prog.funcNamed Rows.deriveDualRow.func=some 3:=by kernel_rfl
theorem Us:joinedFacts Tryz.pinned.checked.prog 3 Tryz.f3 Rows.deriveDualSpec Rows.deriveDualRow=true:=by kernel_rfl
end Go.Proofs.YtahblkeackebaaaGreatDoor
