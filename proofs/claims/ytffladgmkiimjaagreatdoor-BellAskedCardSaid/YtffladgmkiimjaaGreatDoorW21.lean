/- BellAsked (10): THE ROW'S CLOSED FACTS. -/
import Derived.Test.YtffladgmkiimjaaGreatDoorRows
import Derived.Conc.Holds
set_option linter.all false
set_option maxHeartbeats 100000000
set_option maxRecDepth 1000000
namespace Go.Proofs.YtffladgmkiimjaaGreatDoor
open Go
theorem aa5:joinedFacts Tryz.pinned.checked.prog 10 Tryz.f10 Rows.bellAskedSpec Rows.bellAskedRow=true:=by kernel_rfl
end Go.Proofs.YtffladgmkiimjaaGreatDoor
