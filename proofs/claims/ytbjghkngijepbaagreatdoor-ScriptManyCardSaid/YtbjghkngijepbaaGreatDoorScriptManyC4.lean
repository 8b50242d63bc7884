/- Closed facts of stillroomlaw28.ScriptMany's row. -/
import Derived.Test.YtbjghkngijepbaaGreatDoorScriptManyCL
import Derived.WalkKit
import Derived.ProofKit
import Derived.OpenShut
import Derived.Deep.DeepHandedRow
import Derived.KernelRfl
namespace Go.Proofs.YtbjghkngijepbaaGreatDoor.scriptMany
open Go.ChangeShapes Go.WideShapes Go.ChangeAt Go.RowKit
set_option maxRecDepth 100000
theorem cj12 : ((Rows.scriptManyRow.named == Tryz.pinned.checked.prog.varsNamed 4)) = true := by
  show (Rows.scriptManyRow.named == Tryz.prog.varsNamed 4) = true
  unfold Program.varsNamed
  rw [clo]
  kernel_rfl
end Go.Proofs.YtbjghkngijepbaaGreatDoor.scriptMany
