/- Closed facts of stillroomlaw28.ScriptClosed's row. -/
import Derived.Test.YtbjghkngijepbaaGreatDoorRows
import Derived.WalkKit
import Derived.ProofKit
import Derived.OpenShut
import Derived.Deep.DeepHandedRow
import Derived.KernelRfl
namespace Go.Proofs.YtbjghkngijepbaaGreatDoor.scriptClosed
open Go.ChangeShapes Go.WideShapes Go.ChangeAt Go.RowKit
set_option maxRecDepth 100000
theorem cj0 : (Rows.scriptClosedRow.wf (OpenSpec.ofChange (OpenSpec.ofChange Rows.scriptClosedSpec).bare)) = true := by kernel_rfl
theorem cj1 : (laidOutB Tryz.pinned.checked.prog) = true := by kernel_rfl
theorem cj2 : (mapsRowed Tryz.pinned.checked.prog) = true := by kernel_rfl
theorem cj3 : (Tryz.f5.params.all (Tryz.pinned.checked.prog.readableRec ·)) = true := by kernel_rfl
theorem cj4 : (namedTie Tryz.pinned.checked.prog Rows.scriptClosedRow.named (OpenSpec.ofChange Rows.scriptClosedSpec).bare.vars) = true := by kernel_rfl
theorem cj5 : ((Rows.scriptClosedRow.stops == [])) = true := by kernel_rfl
theorem cj6 : ((Tryz.pinned.checked.prog.stops == [])) = true := by kernel_rfl
theorem cj7 : ((Rows.scriptClosedRow.knobs == [])) = true := by kernel_rfl
theorem cj8 : ((Tryz.pinned.checked.prog.stopKnobs == [])) = true := by kernel_rfl
end Go.Proofs.YtbjghkngijepbaaGreatDoor.scriptClosed
