/- Lemmas. No conditions. -/
import Derived.Test.YtidacnalcdhckaaGreatDoorYqA
namespace Go.Proofs.YtidacnalcdhckaaGreatDoor
open Go Go.ChangeShapes Go.WideShapes Go.ChangeAt Go.WideMaps Go.WideElems Go.RowKit

theorem Ru:joinedFacts Tryz.pinned.checked.prog 7 Tryz.f7 Rows.abstractMembersSpec Rows.abstractMembersRow=true:=by kernel_rfl
