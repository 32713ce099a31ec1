/- Closed facts on the row of QuestionGroups. No conditions. -/
import Derived.Test.YtomdpipekmcojaaGreatDoorBgA
namespace Go.Proofs.YtomdpipekmcojaaGreatDoor
open Go Go.ChangeShapes Go.WideShapes Go.ChangeAt Go.WideMaps Go.WideElems Go.RowKit

theorem groups_k1 : Tryz.pinned.checked.prog.funcNamed Rows.questionGroupsRow.func = some 4 := by kernel_rfl
end Go.Proofs.YtomdpipekmcojaaGreatDoor
