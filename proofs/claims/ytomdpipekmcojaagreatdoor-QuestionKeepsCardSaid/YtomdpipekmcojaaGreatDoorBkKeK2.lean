/- Closed facts on the row of QuestionKeeps. No conditions. -/
import Derived.Test.YtomdpipekmcojaaGreatDoorBkA
namespace Go.Proofs.YtomdpipekmcojaaGreatDoor
open Go Go.ChangeShapes Go.WideShapes Go.ChangeAt Go.WideMaps Go.WideElems Go.RowKit

theorem keeps_k2:joinedFacts Tryz.pinned.checked.prog 9 Tryz.f9 Rows.questionKeepsSpec Rows.questionKeepsRow=true:=by kernel_rfl
end Go.Proofs.YtomdpipekmcojaaGreatDoor
