/- Lemmas. No conditions. -/
import Derived.Test.YtidacnalcdhckaaGreatDoorYqA
namespace Go.Proofs.YtidacnalcdhckaaGreatDoor
open Go Go.ChangeShapes Go.WideShapes Go.ChangeAt Go.WideMaps Go.WideElems Go.RowKit

theorem S8:false=Rows.abstractMembersRow.goesBy Tryz.pinned.checked.prog:=by kernel_rfl
