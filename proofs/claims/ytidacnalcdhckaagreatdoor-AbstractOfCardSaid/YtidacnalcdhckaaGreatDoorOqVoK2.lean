/- Lemmas. No conditions. -/
import Derived.Test.YtidacnalcdhckaaGreatDoorOqA
namespace Go.Proofs.YtidacnalcdhckaaGreatDoor
open Go Go.ChangeShapes Go.WideShapes Go.ChangeAt Go.WideMaps Go.WideElems Go.RowKit

theorem O3:joinedFacts Tryz.pinned.checked.prog 4 Tryz.f4 Rows.abstractOfSpec Rows.abstractOfRow=true:=by kernel_rfl
end Go.Proofs.YtidacnalcdhckaaGreatDoor
