/- BellPlayed (4): THE ROW'S CLOSED FACTS. -/
import Derived.Test.YtffladgmkiimjaaGreatDoorRows
import Derived.Conc.Holds
set_option linter.all false
set_option maxHeartbeats 100000000
set_option maxRecDepth 1000000
namespace Go.Proofs.YtffladgmkiimjaaGreatDoor
open Go
theorem F8:joinedFacts Tryz.pinned.checked.prog 4 Tryz.f4 Rows.bellPlayedSpec Rows.bellPlayedRow=true:=by kernel_rfl
end Go.Proofs.YtffladgmkiimjaaGreatDoor
