/- Closed facts on the row of QuestionTells. No conditions. -/
import Derived.Test.YtomdpipekmcojaaGreatDoorBtA
namespace Go.Proofs.YtomdpipekmcojaaGreatDoor
open Go Go.ChangeShapes Go.WideShapes Go.ChangeAt Go.WideMaps Go.WideElems Go.RowKit

theorem tells_k5 : false = Rows.questionTellsRow.goesBy Tryz.pinned.checked.prog := by kernel_rfl
end Go.Proofs.YtomdpipekmcojaaGreatDoor
