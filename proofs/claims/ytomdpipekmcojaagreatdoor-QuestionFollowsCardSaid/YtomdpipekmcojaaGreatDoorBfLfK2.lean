/- Closed facts on the row of QuestionFollows. No conditions. -/
import Derived.Test.YtomdpipekmcojaaGreatDoorBfA
namespace Go.Proofs.YtomdpipekmcojaaGreatDoor
open Go Go.ChangeShapes Go.WideShapes Go.ChangeAt Go.WideMaps Go.WideElems Go.RowKit

theorem follows_k2:joinedFacts Tryz.pinned.checked.prog 6 Tryz.f6 Rows.questionFollowsSpec Rows.questionFollowsRow=true:=by kernel_rfl
end Go.Proofs.YtomdpipekmcojaaGreatDoor
