/- Lemmas. No conditions. -/
import Derived.Test.YtidacnalcdhckaaGreatDoorWqA
namespace Go.Proofs.YtidacnalcdhckaaGreatDoor
open Go Go.ChangeShapes Go.WideShapes Go.ChangeAt Go.WideMaps Go.WideElems Go.RowKit

theorem Wa:Tryz.pinned.checked.prog.funcNamed Rows.abstractSoundRow.func=some 8:=by kernel_rfl
end Go.Proofs.YtidacnalcdhckaaGreatDoor
