/- The closed facts of stillroomlaw28.ScriptClosed's row. -/
import Derived.Test.YtbjghkngijepbaaGreatDoorCards
import Derived.Test.YtbjghkngijepbaaGreatDoorMt
import Derived.Test.YtbjghkngijepbaaGreatDoorScriptClosedC0
import Derived.Test.YtbjghkngijepbaaGreatDoorScriptClosedC1
import Derived.Test.YtbjghkngijepbaaGreatDoorScriptClosedC2
import Derived.Test.YtbjghkngijepbaaGreatDoorScriptClosedC3
import Derived.Test.YtbjghkngijepbaaGreatDoorScriptClosedC4
import Derived.Test.YtbjghkngijepbaaGreatDoorScriptClosedC5
import Derived.WalkKit
import Derived.ProofKit
import Derived.OpenShut
import Derived.Deep.DeepHandedRow
import Derived.KernelRfl
namespace Go.Proofs.YtbjghkngijepbaaGreatDoor.scriptClosed
open Go.ChangeShapes Go.WideShapes Go.ChangeAt Go.RowKit
set_option maxRecDepth 100000
theorem bothB {a b : Bool} (ha : a = true) (hb : b = true) : (a && b) = true := by rw [ha, hb]; rfl
theorem closed:joinedFacts Tryz.pinned.checked.prog 5 Tryz.f5 (OpenSpec.ofChange Rows.scriptClosedSpec).bare Rows.scriptClosedRow=true := by
  unfold joinedFacts
  exact (bothB (bothB (bothB (bothB (bothB (bothB (bothB (bothB (bothB (bothB (bothB (bothB (bothB (bothB (bothB (bothB (bothB (bothB (bothB (bothB (bothB (bothB (bothB (bothB (bothB (bothB (bothB (bothB (bothB (bothB (bothB cj0 cj1) cj2) cj3) cj4) cj5) cj6) cj7) cj8) cj9) cj10) cj11) cj12) cj13) cj14) cj15) cj16) cj17) cj18) cj19) cj20) cj21) cj22) cj23) cj24) cj25) cj26) cj27) cj28) cj29) cj30) cj31)
end Go.Proofs.YtbjghkngijepbaaGreatDoor.scriptClosed
