/- Closed facts on the row of QuestionMakes. No conditions. -/
import Derived.Test.YtomdpipekmcojaaGreatDoorBmA
namespace Go.Proofs.YtomdpipekmcojaaGreatDoor
open Go Go.ChangeShapes Go.WideShapes Go.ChangeAt Go.WideMaps Go.WideElems Go.RowKit

theorem makes_k2 : joinedFacts Tryz.pinned.checked.prog 3 Tryz.f3 Rows.questionMakesSpec Rows.questionMakesRow = true := by kernel_rfl
end Go.Proofs.YtomdpipekmcojaaGreatDoor
