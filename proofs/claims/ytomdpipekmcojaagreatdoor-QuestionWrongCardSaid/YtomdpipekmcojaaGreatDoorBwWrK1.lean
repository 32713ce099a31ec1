/- Closed facts on the row of QuestionWrong. No conditions. -/
import Derived.Test.YtomdpipekmcojaaGreatDoorBwA
namespace Go.Proofs.YtomdpipekmcojaaGreatDoor
open Go Go.ChangeShapes Go.WideShapes Go.ChangeAt Go.WideMaps Go.WideElems Go.RowKit

theorem wrong_k1:Tryz.pinned.checked.prog.funcNamed Rows.questionWrongRow.func=some 5:=by kernel_rfl
end Go.Proofs.YtomdpipekmcojaaGreatDoor
