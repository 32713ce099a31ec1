/- Closed facts on the row of QuestionKeeps. No conditions. -/
import Derived.Test.YtomdpipekmcojaaGreatDoorBkA
namespace Go.Proofs.YtomdpipekmcojaaGreatDoor
open Go Go.ChangeShapes Go.WideShapes Go.ChangeAt Go.WideMaps Go.WideElems Go.RowKit

theorem keeps_k1:Tryz.pinned.checked.prog.funcNamed Rows.questionKeepsRow.func=some 9:=by kernel_rfl
end Go.Proofs.YtomdpipekmcojaaGreatDoor
