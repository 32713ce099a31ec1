/- Lemmas. No conditions. -/
import Derived.Test.YtidacnalcdhckaaGreatDoorYqA
namespace Go.Proofs.YtidacnalcdhckaaGreatDoor
open Go Go.ChangeShapes Go.WideShapes Go.ChangeAt Go.WideMaps Go.WideElems Go.RowKit

theorem QM:joinedFacts Tryz.pinned.checked.prog 8 Tryz.f8 Rows.abstractSoundSpec Rows.abstractSoundRow=true:=by kernel_rfl
end Go.Proofs.YtidacnalcdhckaaGreatDoor
