/- Closed facts on the row of TableJoins. No conditions. -/
import Derived.Test.YthmckfloppblcaaGreatDoorBjA
namespace Go.Proofs.YthmckfloppblcaaGreatDoor
open Go Go.ChangeShapes Go.WideShapes Go.ChangeAt Go.WideMaps Go.WideElems Go.RowKit

theorem joins_k5:false=Rows.tableJoinsRow.goesBy Tryz.pinned.checked.prog:=by kernel_rfl
end Go.Proofs.YthmckfloppblcaaGreatDoor
