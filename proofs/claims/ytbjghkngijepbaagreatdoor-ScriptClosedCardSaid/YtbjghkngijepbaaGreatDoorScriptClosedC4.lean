/- Closed facts of stillroomlaw28.ScriptClosed's row. -/
import Derived.Test.YtbjghkngijepbaaGreatDoorScriptClosedCL
import Derived.WalkKit
import Derived.ProofKit
import Derived.OpenShut
import Derived.Deep.DeepHandedRow
import Derived.KernelRfl
namespace Go.Proofs.YtbjghkngijepbaaGreatDoor.scriptClosed
open Go.ChangeShapes Go.WideShapes Go.ChangeAt Go.RowKit
set_option maxRecDepth 100000
theorem cj12 : ((Rows.scriptClosedRow.named == Tryz.pinned.checked.prog.varsNamed 5)) = true := by
  show (Rows.scriptClosedRow.named == Tryz.prog.varsNamed 5) = true
  unfold Program.varsNamed
  rw [clo]
  kernel_rfl
end Go.Proofs.YtbjghkngijepbaaGreatDoor.scriptClosed
