/- Closed facts on the row of QuestionMakes. No conditions. -/
import Derived.Test.YtomdpipekmcojaaGreatDoorBmA
namespace Go.Proofs.YtomdpipekmcojaaGreatDoor
open Go Go.ChangeShapes Go.WideShapes Go.ChangeAt Go.WideMaps Go.WideElems Go.RowKit

theorem makes_k1 : Tryz.pinned.checked.prog.funcNamed Rows.questionMakesRow.func = some 3 := by kernel_rfl
end Go.Proofs.YtomdpipekmcojaaGreatDoor
