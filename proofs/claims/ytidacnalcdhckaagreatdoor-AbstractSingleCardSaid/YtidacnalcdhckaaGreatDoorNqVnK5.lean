/- Lemmas. No conditions. -/
import Derived.Test.YtidacnalcdhckaaGreatDoorWqA
namespace Go.Proofs.YtidacnalcdhckaaGreatDoor
open Go Go.ChangeShapes Go.WideShapes Go.ChangeAt Go.WideMaps Go.WideElems Go.RowKit

theorem qak:false=Rows.abstractSingleRow.goesBy Tryz.pinned.checked.prog:=by kernel_rfl
end Go.Proofs.YtidacnalcdhckaaGreatDoor
