/- Lemmas. No conditions. -/
import Derived.Test.YtidacnalcdhckaaGreatDoorWq32
import Derived.Test.YtidacnalcdhckaaGreatDoorWq36
namespace Go.Proofs.YtidacnalcdhckaaGreatDoor
open Go Go.RowKit Tryz



end Go.Proofs.YtidacnalcdhckaaGreatDoor
