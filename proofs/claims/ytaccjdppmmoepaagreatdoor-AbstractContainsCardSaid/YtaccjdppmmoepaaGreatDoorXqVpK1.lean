/- Lemmas. No conditions. -/
import Derived.Test.YtaccjdppmmoepaaGreatDoorXqA
namespace Go.Proofs.YtaccjdppmmoepaaGreatDoor
open Go Go.ChangeShapes Go.WideShapes Go.ChangeAt Go.WideMaps Go.WideElems Go.RowKit

theorem EFA:Tryz.pinned.checked.prog.funcNamed Rows.abstractContainsRow.func=some 3:=by kernel_rfl
