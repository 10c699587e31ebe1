/- BellReached (16): THE ROW'S CLOSED FACTS. -/
import Derived.Test.YtffladgmkiimjaaGreatDoorRows
import Derived.Conc.Holds
set_option linter.all false
set_option maxHeartbeats 0
set_option maxRecDepth 1000000
namespace Go.Proofs.YtffladgmkiimjaaGreatDoor
open Go
def Ea:joinedFacts Tryz.pinned.checked.prog 16 Tryz.f16 Rows.bellReachedSpec Rows.bellReachedRow=true:=by kernel_rfl
end Go.Proofs.YtffladgmkiimjaaGreatDoor
