/- Closed facts on the row of QuestionGroups. No conditions. -/
import Derived.Test.YtomdpipekmcojaaGreatDoorBgA
namespace Go.Proofs.YtomdpipekmcojaaGreatDoor
open Go Go.ChangeShapes Go.WideShapes Go.ChangeAt Go.WideMaps Go.WideElems Go.RowKit

theorem groups_k2 : joinedFacts Tryz.pinned.checked.prog 4 Tryz.f4 Rows.questionGroupsSpec Rows.questionGroupsRow = true := by kernel_rfl
end Go.Proofs.YtomdpipekmcojaaGreatDoor
