/- Closed facts on the row of QuestionLeast. No conditions. -/
import Derived.Test.YtomdpipekmcojaaGreatDoorBlA
namespace Go.Proofs.YtomdpipekmcojaaGreatDoor
open Go Go.ChangeShapes Go.WideShapes Go.ChangeAt Go.WideMaps Go.WideElems Go.RowKit

theorem least_k5 : false = Rows.questionLeastRow.goesBy Tryz.pinned.checked.prog := by kernel_rfl
end Go.Proofs.YtomdpipekmcojaaGreatDoor
