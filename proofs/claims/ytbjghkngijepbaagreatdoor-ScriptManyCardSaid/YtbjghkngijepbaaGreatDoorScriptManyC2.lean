/- Closed facts of stillroomlaw28.ScriptMany's row. -/
import Derived.Test.YtbjghkngijepbaaGreatDoorRows
import Derived.WalkKit
import Derived.ProofKit
import Derived.OpenShut
import Derived.Deep.DeepHandedRow
import Derived.KernelRfl
namespace Go.Proofs.YtbjghkngijepbaaGreatDoor.scriptMany
open Go.ChangeShapes Go.WideShapes Go.ChangeAt Go.RowKit
set_option maxRecDepth 100000
theorem cj10 : ((Rows.scriptManyRow.unfollowed == Tryz.pinned.checked.prog.unfollowed 4)) = true := by kernel_rfl
end Go.Proofs.YtbjghkngijepbaaGreatDoor.scriptMany
