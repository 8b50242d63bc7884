/- Closed facts of stillroomlaw28.ScriptClosed's row. -/
import Derived.Test.YtbjghkngijepbaaGreatDoorRows
import Derived.WalkKit
import Derived.ProofKit
import Derived.OpenShut
import Derived.Deep.DeepHandedRow
import Derived.KernelRfl
namespace Go.Proofs.YtbjghkngijepbaaGreatDoor.scriptClosed
open Go.ChangeShapes Go.WideShapes Go.ChangeAt Go.RowKit
set_option maxRecDepth 100000
theorem cj11 : ((Rows.scriptClosedRow.recurses == Tryz.pinned.checked.prog.recurses 5)) = true := by kernel_rfl
end Go.Proofs.YtbjghkngijepbaaGreatDoor.scriptClosed
