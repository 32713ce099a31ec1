/- Closed facts on the row of QuestionFollows. No conditions. -/
import Derived.Test.YtomdpipekmcojaaGreatDoorBfA
namespace Go.Proofs.YtomdpipekmcojaaGreatDoor
open Go Go.ChangeShapes Go.WideShapes Go.ChangeAt Go.WideMaps Go.WideElems Go.RowKit

theorem follows_k1:Tryz.pinned.checked.prog.funcNamed Rows.questionFollowsRow.func=some 6:=by kernel_rfl
end Go.Proofs.YtomdpipekmcojaaGreatDoor
