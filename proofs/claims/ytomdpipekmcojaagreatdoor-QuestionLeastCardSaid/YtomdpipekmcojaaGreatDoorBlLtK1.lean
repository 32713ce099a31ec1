/- Closed facts on the row of QuestionLeast. No conditions. -/
import Derived.Test.YtomdpipekmcojaaGreatDoorBlA
namespace Go.Proofs.YtomdpipekmcojaaGreatDoor
open Go Go.ChangeShapes Go.WideShapes Go.ChangeAt Go.WideMaps Go.WideElems Go.RowKit

theorem least_k1 : Tryz.pinned.checked.prog.funcNamed Rows.questionLeastRow.func = some 8 := by kernel_rfl
end Go.Proofs.YtomdpipekmcojaaGreatDoor
