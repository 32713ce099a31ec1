/- Closed facts on the row of QuestionLeast. No conditions. -/
import Derived.Test.YtomdpipekmcojaaGreatDoorBlA
namespace Go.Proofs.YtomdpipekmcojaaGreatDoor
open Go Go.ChangeShapes Go.WideShapes Go.ChangeAt Go.WideMaps Go.WideElems Go.RowKit

theorem least_k2 : joinedFacts Tryz.pinned.checked.prog 8 Tryz.f8 Rows.questionLeastSpec Rows.questionLeastRow = true := by kernel_rfl
end Go.Proofs.YtomdpipekmcojaaGreatDoor
