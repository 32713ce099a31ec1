/- Closed facts on the row of TableSelf. No conditions. -/
import Derived.Test.YthmckfloppblcaaGreatDoorBvA
namespace Go.Proofs.YthmckfloppblcaaGreatDoor
open Go Go.ChangeShapes Go.WideShapes Go.ChangeAt Go.WideMaps Go.WideElems Go.RowKit

theorem selfj_k1:Tryz.pinned.checked.prog.funcNamed Rows.tableSelfRow.func=some 4:=by kernel_rfl
end Go.Proofs.YthmckfloppblcaaGreatDoor
