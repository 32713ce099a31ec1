/- Lemmas. No conditions. -/
import Derived.Test.YtaccjdppmmoepaaGreatDoorXqA
namespace Go.Proofs.YtaccjdppmmoepaaGreatDoor
open Go Go.ChangeShapes Go.WideShapes Go.ChangeAt Go.WideMaps Go.WideElems Go.RowKit

theorem FiA:false=Rows.abstractContainsRow.goesBy Tryz.pinned.checked.prog:=by kernel_rfl
