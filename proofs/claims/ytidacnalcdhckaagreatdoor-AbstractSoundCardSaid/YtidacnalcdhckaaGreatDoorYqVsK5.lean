/- Lemmas. No conditions. -/
import Derived.Test.YtidacnalcdhckaaGreatDoorYqA
namespace Go.Proofs.YtidacnalcdhckaaGreatDoor
open Go Go.ChangeShapes Go.WideShapes Go.ChangeAt Go.WideMaps Go.WideElems Go.RowKit

theorem QK:false=Rows.abstractSoundRow.goesBy Tryz.pinned.checked.prog:=by kernel_rfl
end Go.Proofs.YtidacnalcdhckaaGreatDoor
