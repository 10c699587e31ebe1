/- BellReal (15): THE ROW'S CLOSED FACTS. -/
import Derived.Test.YtffladgmkiimjaaGreatDoorRows
import Derived.Conc.Holds
set_option linter.all false
set_option maxHeartbeats 0
set_option maxRecDepth 1000000
namespace Go.Proofs.YtffladgmkiimjaaGreatDoor
open Go
def LJ:joinedFacts Tryz.pinned.checked.prog 15 Tryz.f15 Rows.bellRealSpec Rows.bellRealRow=true:=by kernel_rfl
end Go.Proofs.YtffladgmkiimjaaGreatDoor
