/- Closed facts of stillroomlaw28.ScriptMany's row. -/
import Derived.Test.YtbjghkngijepbaaGreatDoorRows
import Derived.WalkKit
import Derived.ProofKit
import Derived.OpenShut
import Derived.Deep.DeepHandedRow
import Derived.KernelRfl
namespace Go.Proofs.YtbjghkngijepbaaGreatDoor.scriptMany
open Go.ChangeShapes Go.WideShapes Go.ChangeAt Go.RowKit
set_option maxRecDepth 100000
theorem cj0 : (Rows.scriptManyRow.wf (OpenSpec.ofChange (OpenSpec.ofChange Rows.scriptManySpec).bare)) = true := by kernel_rfl
theorem cj1 : (laidOutB Tryz.pinned.checked.prog) = true := by kernel_rfl
theorem cj2 : (mapsRowed Tryz.pinned.checked.prog) = true := by kernel_rfl
theorem cj3 : (Tryz.f4.params.all (Tryz.pinned.checked.prog.readableRec ·)) = true := by kernel_rfl
theorem cj4 : (namedTie Tryz.pinned.checked.prog Rows.scriptManyRow.named (OpenSpec.ofChange Rows.scriptManySpec).bare.vars) = true := by kernel_rfl
theorem cj5 : ((Rows.scriptManyRow.stops == [])) = true := by kernel_rfl
theorem cj6 : ((Tryz.pinned.checked.prog.stops == [])) = true := by kernel_rfl
theorem cj7 : ((Rows.scriptManyRow.knobs == [])) = true := by kernel_rfl
theorem cj8 : ((Tryz.pinned.checked.prog.stopKnobs == [])) = true := by kernel_rfl
end Go.Proofs.YtbjghkngijepbaaGreatDoor.scriptMany
