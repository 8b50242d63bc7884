/- Closed facts of stillroomlaw28.ScriptMany's row. -/
import Derived.Test.YtbjghkngijepbaaGreatDoorRows
import Derived.WalkKit
import Derived.ProofKit
import Derived.OpenShut
import Derived.Deep.DeepHandedRow
import Derived.KernelRfl
namespace Go.Proofs.YtbjghkngijepbaaGreatDoor.scriptMany
open Go.ChangeShapes Go.WideShapes Go.ChangeAt Go.RowKit
set_option maxRecDepth 100000
theorem cj13 : ((Rows.scriptManyRow.maps == (Tryz.f4.params.toList ++ (OpenSpec.ofChange Rows.scriptManySpec).bare.plain.varTypes Tryz.pinned.checked.prog).any (Tryz.pinned.checked.prog.mapsRec ·))) = true := by kernel_rfl
theorem cj14 : ((Rows.scriptManyRow.ifaces == (Tryz.f4.params.toList ++ (OpenSpec.ofChange Rows.scriptManySpec).bare.plain.varTypes Tryz.pinned.checked.prog).any (Tryz.pinned.checked.prog.ifacesRec ·))) = true := by kernel_rfl
theorem cj15 : ((Rows.scriptManyRow.mapsOut == Tryz.pinned.checked.prog.mapsAmong Tryz.f4.resultTypes.toList)) = true := by kernel_rfl
theorem cj16 : ((Rows.scriptManyRow.loops == (Tryz.f4.params.toList ++ (OpenSpec.ofChange Rows.scriptManySpec).bare.plain.varTypes Tryz.pinned.checked.prog).any (Tryz.pinned.checked.prog.loopsFrom ·))) = true := by kernel_rfl
theorem cj17 : ((Rows.scriptManyRow.wideKeys == (Tryz.f4.params.toList ++ (OpenSpec.ofChange Rows.scriptManySpec).bare.plain.varTypes Tryz.pinned.checked.prog ++ Tryz.f4.resultTypes.toList).any (Tryz.pinned.checked.prog.wideKeysFrom ·))) = true := by kernel_rfl
theorem cj18 : ((OpenSpec.ofChange Rows.scriptManySpec).bare.vars.all (Tryz.pinned.checked.prog.varReadable ·)) = true := by kernel_rfl
theorem cj19 : (Tryz.f4.resultTypes.all (fun t => Tryz.pinned.checked.prog.readableRec t && decide (t < Tryz.pinned.checked.prog.types.size))) = true := by kernel_rfl
theorem cj20 : ((Rows.scriptManyRow.ifacesOut == Tryz.f4.resultTypes.toList.any (Tryz.pinned.checked.prog.ifacesRec ·))) = true := by kernel_rfl
theorem cj21 : ((Rows.scriptManyRow.loopsOut == Tryz.f4.resultTypes.toList.any (Tryz.pinned.checked.prog.loopsFrom ·))) = true := by kernel_rfl
theorem cj22 : ((Rows.scriptManyRow.plainKeys == Tryz.pinned.checked.prog.plainKeys)) = true := by kernel_rfl
theorem cj23 : (Rows.scriptManyRow.shortTexts.isNone) = true := by kernel_rfl
theorem cj24 : (Tryz.pinned.checked.prog.stopsHeard) = true := by kernel_rfl
theorem cj25 : (Tryz.pinned.checked.prog.mayEnter) = true := by kernel_rfl
theorem cj26 : ((Rows.scriptManyRow.lifted == Tryz.pinned.checked.prog.liftsFinal)) = true := by kernel_rfl
theorem cj27 : ((Tryz.pinned.checked.prog.make == some Rows.scriptManyRow.make)) = true := by kernel_rfl
theorem cj28 : ((Rows.scriptManyRow.kinds == (if Rows.scriptManyRow.domain.isEmpty then [] else Tryz.f4.params.toList.map fun t => match Tryz.pinned.checked.prog.underlying t with | some (.int k) => some k | _ => none))) = true := by kernel_rfl
theorem cj29 : ((Rows.scriptManyRow.pinned == Rows.scriptManyRow.pinnedBy)) = true := by kernel_rfl
theorem cj30 : ((Rows.scriptManyRow.veiled == (Tryz.f4.params.toList ++ (OpenSpec.ofChange Rows.scriptManySpec).bare.plain.varTypes Tryz.pinned.checked.prog ++ Tryz.f4.resultTypes.toList).any (Tryz.pinned.checked.prog.veiledRec ·))) = true := by kernel_rfl
theorem cj31 : (Rows.scriptManyRow.veiledFits Tryz.pinned.checked.prog Tryz.f4.params.toList (Tryz.f4.params.toList ++ (OpenSpec.ofChange Rows.scriptManySpec).bare.plain.varTypes Tryz.pinned.checked.prog ++ Tryz.f4.resultTypes.toList)) = true := by kernel_rfl
end Go.Proofs.YtbjghkngijepbaaGreatDoor.scriptMany
