/- Closed facts on the row of TableSelf. No conditions. -/
import Derived.Test.YthmckfloppblcaaGreatDoorBvA
namespace Go.Proofs.YthmckfloppblcaaGreatDoor
open Go Go.ChangeShapes Go.WideShapes Go.ChangeAt Go.WideMaps Go.WideElems Go.RowKit

theorem selfj_k2:joinedFacts Tryz.pinned.checked.prog 4 Tryz.f4 Rows.tableSelfSpec Rows.tableSelfRow=true:=by kernel_rfl
end Go.Proofs.YthmckfloppblcaaGreatDoor
