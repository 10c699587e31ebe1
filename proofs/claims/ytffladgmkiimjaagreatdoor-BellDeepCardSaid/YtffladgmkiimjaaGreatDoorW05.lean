/- BellDeep (7): THE ROW'S CLOSED FACTS. -/
import Derived.Test.YtffladgmkiimjaaGreatDoorRows
import Derived.Conc.Holds
set_option linter.unusedVariables false
set_option linter.unusedSimpArgs false
set_option maxHeartbeats 100000000
set_option maxRecDepth 1000000
namespace Go.Proofs.YtffladgmkiimjaaGreatDoor
open Go
theorem Ku:joinedFacts Tryz.pinned.checked.prog 7 Tryz.f7 Rows.bellDeepSpec Rows.bellDeepRow=true:=by kernel_rfl
end Go.Proofs.YtffladgmkiimjaaGreatDoor
