/- Closed facts of stillroomlaw28.ScriptClosed's row. -/
import Derived.Test.YtbjghkngijepbaaGreatDoorRows
import Derived.WalkKit
import Derived.ProofKit
import Derived.OpenShut
import Derived.Deep.DeepHandedRow
import Derived.KernelRfl
namespace Go.Proofs.YtbjghkngijepbaaGreatDoor.scriptClosed
open Go.ChangeShapes Go.WideShapes Go.ChangeAt Go.RowKit
set_option maxRecDepth 100000
theorem cj13 : ((Rows.scriptClosedRow.maps == (Tryz.f5.params.toList ++ (OpenSpec.ofChange Rows.scriptClosedSpec).bare.plain.varTypes Tryz.pinned.checked.prog).any (Tryz.pinned.checked.prog.mapsRec ·))) = true := by kernel_rfl
theorem cj14 : ((Rows.scriptClosedRow.ifaces == (Tryz.f5.params.toList ++ (OpenSpec.ofChange Rows.scriptClosedSpec).bare.plain.varTypes Tryz.pinned.checked.prog).any (Tryz.pinned.checked.prog.ifacesRec ·))) = true := by kernel_rfl
theorem cj15 : ((Rows.scriptClosedRow.mapsOut == Tryz.pinned.checked.prog.mapsAmong Tryz.f5.resultTypes.toList)) = true := by kernel_rfl
theorem cj16 : ((Rows.scriptClosedRow.loops == (Tryz.f5.params.toList ++ (OpenSpec.ofChange Rows.scriptClosedSpec).bare.plain.varTypes Tryz.pinned.checked.prog).any (Tryz.pinned.checked.prog.loopsFrom ·))) = true := by kernel_rfl
theorem cj17 : ((Rows.scriptClosedRow.wideKeys == (Tryz.f5.params.toList ++ (OpenSpec.ofChange Rows.scriptClosedSpec).bare.plain.varTypes Tryz.pinned.checked.prog ++ Tryz.f5.resultTypes.toList).any (Tryz.pinned.checked.prog.wideKeysFrom ·))) = true := by kernel_rfl
theorem cj18 : ((OpenSpec.ofChange Rows.scriptClosedSpec).bare.vars.all (Tryz.pinned.checked.prog.varReadable ·)) = true := by kernel_rfl
theorem cj19 : (Tryz.f5.resultTypes.all (fun t => Tryz.pinned.checked.prog.readableRec t && decide (t < Tryz.pinned.checked.prog.types.size))) = true := by kernel_rfl
theorem cj20 : ((Rows.scriptClosedRow.ifacesOut == Tryz.f5.resultTypes.toList.any (Tryz.pinned.checked.prog.ifacesRec ·))) = true := by kernel_rfl
theorem cj21 : ((Rows.scriptClosedRow.loopsOut == Tryz.f5.resultTypes.toList.any (Tryz.pinned.checked.prog.loopsFrom ·))) = true := by kernel_rfl
theorem cj22 : ((Rows.scriptClosedRow.plainKeys == Tryz.pinned.checked.prog.plainKeys)) = true := by kernel_rfl
theorem cj23 : (Rows.scriptClosedRow.shortTexts.isNone) = true := by kernel_rfl
theorem cj24 : (Tryz.pinned.checked.prog.stopsHeard) = true := by kernel_rfl
theorem cj25 : (Tryz.pinned.checked.prog.mayEnter) = true := by kernel_rfl
theorem cj26 : ((Rows.scriptClosedRow.lifted == Tryz.pinned.checked.prog.liftsFinal)) = true := by kernel_rfl
theorem cj27 : ((Tryz.pinned.checked.prog.make == some Rows.scriptClosedRow.make)) = true := by kernel_rfl
theorem cj28 : ((Rows.scriptClosedRow.kinds == (if Rows.scriptClosedRow.domain.isEmpty then [] else Tryz.f5.params.toList.map fun t => match Tryz.pinned.checked.prog.underlying t with | some (.int k) => some k | _ => none))) = true := by kernel_rfl
theorem cj29 : ((Rows.scriptClosedRow.pinned == Rows.scriptClosedRow.pinnedBy)) = true := by kernel_rfl
theorem cj30 : ((Rows.scriptClosedRow.veiled == (Tryz.f5.params.toList ++ (OpenSpec.ofChange Rows.scriptClosedSpec).bare.plain.varTypes Tryz.pinned.checked.prog ++ Tryz.f5.resultTypes.toList).any (Tryz.pinned.checked.prog.veiledRec ·))) = true := by kernel_rfl
theorem cj31 : (Rows.scriptClosedRow.veiledFits Tryz.pinned.checked.prog Tryz.f5.params.toList (Tryz.f5.params.toList ++ (OpenSpec.ofChange Rows.scriptClosedSpec).bare.plain.varTypes Tryz.pinned.checked.prog ++ Tryz.f5.resultTypes.toList)) = true := by kernel_rfl
end Go.Proofs.YtbjghkngijepbaaGreatDoor.scriptClosed
