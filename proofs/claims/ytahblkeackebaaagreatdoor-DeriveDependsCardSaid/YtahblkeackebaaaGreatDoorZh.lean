import Derived.Test.YtahblkeackebaaaGreatDoorZg
import Derived.Test.YtahblkeackebaaaGreatDoorRows
import Derived.Test.YtahblkeackebaaaGreatDoorCards
import Derived.SevenTiedAt
set_option linter.unusedVariables false
set_option linter.unusedSimpArgs false
namespace Go.Proofs.YtahblkeackebaaaGreatDoor
open Go.ChangeShapes Go.WideShapes
theorem Vn:Tryz.pinned.checked.prog.funcNamed Rows.deriveDependsRow.func=some 5:=by kernel_rfl
theorem Vo:joinedFacts Tryz.pinned.checked.prog 5 Tryz.f5 Rows.deriveDependsSpec Rows.deriveDependsRow=true:=by kernel_rfl
end Go.Proofs.YtahblkeackebaaaGreatDoor
