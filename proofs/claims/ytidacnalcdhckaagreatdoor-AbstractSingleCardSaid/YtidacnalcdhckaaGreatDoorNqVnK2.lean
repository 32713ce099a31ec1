/- Lemmas. No conditions. -/
import Derived.Test.YtidacnalcdhckaaGreatDoorWqA
namespace Go.Proofs.YtidacnalcdhckaaGreatDoor
open Go Go.ChangeShapes Go.WideShapes Go.ChangeAt Go.WideMaps Go.WideElems Go.RowKit

theorem qaj:joinedFacts Tryz.pinned.checked.prog 3 Tryz.f3 Rows.abstractSingleSpec Rows.abstractSingleRow=true:=by kernel_rfl
end Go.Proofs.YtidacnalcdhckaaGreatDoor
