/- Lemmas. No conditions. -/
import Derived.Test.YtidacnalcdhckaaGreatDoorWqA
namespace Go.Proofs.YtidacnalcdhckaaGreatDoor
open Go Go.ChangeShapes Go.WideShapes Go.ChangeAt Go.WideMaps Go.WideElems Go.RowKit

theorem CWA:joinedFacts Tryz.pinned.checked.prog 8 Tryz.f8 Rows.abstractSoundSpec Rows.abstractSoundRow=true:=by kernel_rfl
end Go.Proofs.YtidacnalcdhckaaGreatDoor
