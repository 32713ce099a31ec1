/- Lemmas. No conditions. -/
import Derived.Test.YtidacnalcdhckaaGreatDoorOq32
import Derived.Deep.DeepCutAuto
namespace Go.Proofs.YtidacnalcdhckaaGreatDoor
open Go Go.RowKit Tryz

end Go.Proofs.YtidacnalcdhckaaGreatDoor
