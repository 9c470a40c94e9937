import Derived.Test.YtdbpmmihpmbbdaaGreatDoorZg
import Derived.Test.YtdbpmmihpmbbdaaGreatDoorRows
import Derived.Test.YtdbpmmihpmbbdaaGreatDoorCards
import Derived.SevenTiedAt
set_option linter.unusedVariables false
set_option linter.unusedSimpArgs false
namespace Go.Proofs.YtdbpmmihpmbbdaaGreatDoor
open Go.ChangeShapes Go.WideShapes
theorem Yi:Tryz.pinned.checked.prog.funcNamed Rows.deriveSimplifyRow.func=some 3:=by kernel_rfl
theorem Yj:joinedFacts Tryz.pinned.checked.prog 3 Tryz.f3 Rows.deriveSimplifySpec Rows.deriveSimplifyRow=true:=by kernel_rfl
end Go.Proofs.YtdbpmmihpmbbdaaGreatDoor
