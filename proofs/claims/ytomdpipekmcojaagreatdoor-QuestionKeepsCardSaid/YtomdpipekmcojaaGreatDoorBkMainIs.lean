/- Closed facts on the program's main. No conditions. -/
import Derived.Test.YtomdpipekmcojaaGreatDoorBkA
namespace Go.Proofs.YtomdpipekmcojaaGreatDoor
open Go Go.ChangeShapes Go.WideShapes Go.ChangeAt Go.WideMaps Go.WideElems Go.RowKit

theorem main_is:Tryz.pinned.checked.prog.mainIs=some ((true, "8e6fdeea6caea660bb66a34633d4ce5475cf50e4245809de374d7957d0372c58").fst,(true, "8e6fdeea6caea660bb66a34633d4ce5475cf50e4245809de374d7957d0372c58").snd.toList):=by kernel_rfl
end Go.Proofs.YtomdpipekmcojaaGreatDoor
