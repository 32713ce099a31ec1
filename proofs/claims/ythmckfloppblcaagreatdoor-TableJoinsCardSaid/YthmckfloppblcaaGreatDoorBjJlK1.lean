/- Closed facts on the row of TableJoins. No conditions. -/
import Derived.Test.YthmckfloppblcaaGreatDoorBjA
namespace Go.Proofs.YthmckfloppblcaaGreatDoor
open Go Go.ChangeShapes Go.WideShapes Go.ChangeAt Go.WideMaps Go.WideElems Go.RowKit

theorem joins_k1:Tryz.pinned.checked.prog.funcNamed Rows.tableJoinsRow.func=some 3:=by kernel_rfl
end Go.Proofs.YthmckfloppblcaaGreatDoor
