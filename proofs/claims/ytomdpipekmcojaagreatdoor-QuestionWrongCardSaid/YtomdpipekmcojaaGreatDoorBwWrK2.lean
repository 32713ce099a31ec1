/- Closed facts on the row of QuestionWrong. No conditions. -/
import Derived.Test.YtomdpipekmcojaaGreatDoorBwA
namespace Go.Proofs.YtomdpipekmcojaaGreatDoor
open Go Go.ChangeShapes Go.WideShapes Go.ChangeAt Go.WideMaps Go.WideElems Go.RowKit

theorem wrong_k2:joinedFacts Tryz.pinned.checked.prog 5 Tryz.f5 Rows.questionWrongSpec Rows.questionWrongRow=true:=by kernel_rfl
end Go.Proofs.YtomdpipekmcojaaGreatDoor
