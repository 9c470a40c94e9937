import Derived.Test.YtenilpdfpmdhmaaGreatDoorZg
import Derived.Test.YtenilpdfpmdhmaaGreatDoorRows
import Derived.Test.YtenilpdfpmdhmaaGreatDoorCards
import Derived.SevenTiedAt
set_option linter.unusedVariables false
set_option linter.unusedSimpArgs false
namespace Go.Proofs.YtenilpdfpmdhmaaGreatDoor
open Go.ChangeShapes Go.WideShapes Go.ChangeAt Go.RowKit
theorem QO:Tryz.pinned.checked.prog.funcNamed Rows.deriveRulesRow.func=some 8:=by kernel_rfl
theorem QP:joinedFacts Tryz.pinned.checked.prog 8 Tryz.f8 Rows.deriveRulesSpec Rows.deriveRulesRow=true:=by kernel_rfl
end Go.Proofs.YtenilpdfpmdhmaaGreatDoor
