/- Lemmas. No conditions. -/
import Derived.Test.YtidacnalcdhckaaGreatDoorWqA
namespace Go.Proofs.YtidacnalcdhckaaGreatDoor
open Go Go.ChangeShapes Go.WideShapes Go.ChangeAt Go.WideMaps Go.WideElems Go.RowKit

theorem qai:Tryz.pinned.checked.prog.funcNamed Rows.abstractSingleRow.func=some 3:=by kernel_rfl
end Go.Proofs.YtidacnalcdhckaaGreatDoor
