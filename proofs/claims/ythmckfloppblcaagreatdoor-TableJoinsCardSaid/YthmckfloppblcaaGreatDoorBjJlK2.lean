/- Closed facts on the row of TableJoins. No conditions. -/
import Derived.Test.YthmckfloppblcaaGreatDoorBjA
namespace Go.Proofs.YthmckfloppblcaaGreatDoor
open Go Go.ChangeShapes Go.WideShapes Go.ChangeAt Go.WideMaps Go.WideElems Go.RowKit

theorem joins_k2:joinedFacts Tryz.pinned.checked.prog 3 Tryz.f3 Rows.tableJoinsSpec Rows.tableJoinsRow=true:=by kernel_rfl
end Go.Proofs.YthmckfloppblcaaGreatDoor
