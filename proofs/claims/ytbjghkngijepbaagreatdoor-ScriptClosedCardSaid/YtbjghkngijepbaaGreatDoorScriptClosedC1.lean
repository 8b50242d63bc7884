/- Closed facts of stillroomlaw28.ScriptClosed's row. -/
import Derived.Test.YtbjghkngijepbaaGreatDoorScriptClosedCL
import Derived.WalkKit
import Derived.ProofKit
import Derived.OpenShut
import Derived.Deep.DeepHandedRow
import Derived.KernelRfl
namespace Go.Proofs.YtbjghkngijepbaaGreatDoor.scriptClosed
open Go.ChangeShapes Go.WideShapes Go.ChangeAt Go.RowKit
set_option maxRecDepth 100000
theorem cj9 : ((Rows.scriptClosedRow.inPlace == Tryz.pinned.checked.prog.inPlace 5)) = true := by
  show (Rows.scriptClosedRow.inPlace == Tryz.prog.inPlace 5) = true
  unfold Program.inPlace
  rw [clo]
  kernel_rfl
end Go.Proofs.YtbjghkngijepbaaGreatDoor.scriptClosed
