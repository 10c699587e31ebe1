/- BellClashes (9): THE ROW'S CLOSED FACTS. -/
import Derived.Test.YtffladgmkiimjaaGreatDoorRows
import Derived.Conc.Holds
set_option linter.all false
set_option maxHeartbeats 100000000
set_option maxRecDepth 1000000
namespace Go.Proofs.YtffladgmkiimjaaGreatDoor
open Go
theorem EB:joinedFacts Tryz.pinned.checked.prog 9 Tryz.f9 Rows.bellClashesSpec Rows.bellClashesRow=true:=by kernel_rfl
end Go.Proofs.YtffladgmkiimjaaGreatDoor
