/- Lemmas. No conditions. -/
import Derived.Test.YtidacnalcdhckaaGreatDoorOqA
namespace Go.Proofs.YtidacnalcdhckaaGreatDoor
open Go Go.ChangeShapes Go.WideShapes Go.ChangeAt Go.WideMaps Go.WideElems Go.RowKit

theorem PL:false=Rows.abstractOfRow.goesBy Tryz.pinned.checked.prog:=by kernel_rfl
end Go.Proofs.YtidacnalcdhckaaGreatDoor
