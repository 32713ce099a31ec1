/- Lemmas. No conditions. -/
import Derived.Test.YtaccjdppmmoepaaGreatDoorXqA
namespace Go.Proofs.YtaccjdppmmoepaaGreatDoor
open Go Go.ChangeShapes Go.WideShapes Go.ChangeAt Go.WideMaps Go.WideElems Go.RowKit

theorem E9A:joinedFacts Tryz.pinned.checked.prog 3 Tryz.f3 Rows.abstractContainsSpec Rows.abstractContainsRow=true:=by kernel_rfl
