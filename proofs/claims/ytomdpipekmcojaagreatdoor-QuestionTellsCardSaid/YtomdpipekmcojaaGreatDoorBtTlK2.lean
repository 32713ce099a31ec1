/- Closed facts on the row of QuestionTells. No conditions. -/
import Derived.Test.YtomdpipekmcojaaGreatDoorBtA
namespace Go.Proofs.YtomdpipekmcojaaGreatDoor
open Go Go.ChangeShapes Go.WideShapes Go.ChangeAt Go.WideMaps Go.WideElems Go.RowKit

theorem tells_k2 : joinedFacts Tryz.pinned.checked.prog 7 Tryz.f7 Rows.questionTellsSpec Rows.questionTellsRow = true := by kernel_rfl
end Go.Proofs.YtomdpipekmcojaaGreatDoor
