/- Lemmas. No conditions. -/
import Derived.Test.YtidacnalcdhckaaGreatDoorYqA
namespace Go.Proofs.YtidacnalcdhckaaGreatDoor
open Go Go.ChangeShapes Go.WideShapes Go.ChangeAt Go.WideMaps Go.WideElems Go.RowKit

theorem MX:Tryz.pinned.checked.prog.funcNamed Rows.abstractMembersRow.func=some 7:=by kernel_rfl
