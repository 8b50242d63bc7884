/- Closed facts of stillroomlaw28.ScriptMany's row. -/
import Derived.Test.YtbjghkngijepbaaGreatDoorScriptManyCL
import Derived.WalkKit
import Derived.ProofKit
import Derived.OpenShut
import Derived.Deep.DeepHandedRow
import Derived.KernelRfl
namespace Go.Proofs.YtbjghkngijepbaaGreatDoor.scriptMany
open Go.ChangeShapes Go.WideShapes Go.ChangeAt Go.RowKit
set_option maxRecDepth 100000
theorem cj9 : ((Rows.scriptManyRow.inPlace == Tryz.pinned.checked.prog.inPlace 4)) = true := by
  show (Rows.scriptManyRow.inPlace == Tryz.prog.inPlace 4) = true
  unfold Program.inPlace
  rw [clo]
  kernel_rfl
end Go.Proofs.YtbjghkngijepbaaGreatDoor.scriptMany
