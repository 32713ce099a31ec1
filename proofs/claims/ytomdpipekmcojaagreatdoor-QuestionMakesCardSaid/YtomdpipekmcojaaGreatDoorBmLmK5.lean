/- Closed facts on the row of QuestionMakes. No conditions. -/
import Derived.Test.YtomdpipekmcojaaGreatDoorBmA
namespace Go.Proofs.YtomdpipekmcojaaGreatDoor
open Go Go.ChangeShapes Go.WideShapes Go.ChangeAt Go.WideMaps Go.WideElems Go.RowKit

theorem makes_k5 : false = Rows.questionMakesRow.goesBy Tryz.pinned.checked.prog := by kernel_rfl
end Go.Proofs.YtomdpipekmcojaaGreatDoor
