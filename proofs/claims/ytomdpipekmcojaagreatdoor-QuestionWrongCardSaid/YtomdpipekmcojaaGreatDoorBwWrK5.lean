/- Closed facts on the row of QuestionWrong. No conditions. -/
import Derived.Test.YtomdpipekmcojaaGreatDoorBwA
namespace Go.Proofs.YtomdpipekmcojaaGreatDoor
open Go Go.ChangeShapes Go.WideShapes Go.ChangeAt Go.WideMaps Go.WideElems Go.RowKit

theorem wrong_k5:false=Rows.questionWrongRow.goesBy Tryz.pinned.checked.prog:=by kernel_rfl
end Go.Proofs.YtomdpipekmcojaaGreatDoor
