/- Closed facts on the row of QuestionKeeps. No conditions. -/
import Derived.Test.YtomdpipekmcojaaGreatDoorBkA
namespace Go.Proofs.YtomdpipekmcojaaGreatDoor
open Go Go.ChangeShapes Go.WideShapes Go.ChangeAt Go.WideMaps Go.WideElems Go.RowKit

theorem keeps_k5:false=Rows.questionKeepsRow.goesBy Tryz.pinned.checked.prog:=by kernel_rfl
end Go.Proofs.YtomdpipekmcojaaGreatDoor
