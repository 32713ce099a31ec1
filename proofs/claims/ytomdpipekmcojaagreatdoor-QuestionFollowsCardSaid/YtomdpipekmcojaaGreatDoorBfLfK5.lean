/- Closed facts on the row of QuestionFollows. No conditions. -/
import Derived.Test.YtomdpipekmcojaaGreatDoorBfA
namespace Go.Proofs.YtomdpipekmcojaaGreatDoor
open Go Go.ChangeShapes Go.WideShapes Go.ChangeAt Go.WideMaps Go.WideElems Go.RowKit

theorem follows_k5:false=Rows.questionFollowsRow.goesBy Tryz.pinned.checked.prog:=by kernel_rfl
end Go.Proofs.YtomdpipekmcojaaGreatDoor
