/- Lemmas. No conditions. -/
import Derived.Test.YtidacnalcdhckaaGreatDoorWqA
namespace Go.Proofs.YtidacnalcdhckaaGreatDoor
open Go Go.ChangeShapes Go.WideShapes Go.ChangeAt Go.WideMaps Go.WideElems Go.RowKit

theorem qax:joinedFacts Tryz.pinned.checked.prog 6 Tryz.f6 Rows.abstractLatticeSpec Rows.abstractLatticeRow=true:=by kernel_rfl
end Go.Proofs.YtidacnalcdhckaaGreatDoor
