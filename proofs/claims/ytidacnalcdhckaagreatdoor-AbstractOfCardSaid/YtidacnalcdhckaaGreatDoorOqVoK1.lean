/- Lemmas. No conditions. -/
import Derived.Test.YtidacnalcdhckaaGreatDoorOqA
namespace Go.Proofs.YtidacnalcdhckaaGreatDoor
open Go Go.ChangeShapes Go.WideShapes Go.ChangeAt Go.WideMaps Go.WideElems Go.RowKit

theorem Mq:Tryz.pinned.checked.prog.funcNamed Rows.abstractOfRow.func=some 4:=by kernel_rfl
end Go.Proofs.YtidacnalcdhckaaGreatDoor
