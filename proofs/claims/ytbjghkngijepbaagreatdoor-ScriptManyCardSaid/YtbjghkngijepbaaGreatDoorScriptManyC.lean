/- The closed facts of stillroomlaw28.ScriptMany's row. -/
import Derived.Test.YtbjghkngijepbaaGreatDoorCards
import Derived.Test.YtbjghkngijepbaaGreatDoorMt
import Derived.Test.YtbjghkngijepbaaGreatDoorScriptManyC0
import Derived.Test.YtbjghkngijepbaaGreatDoorScriptManyC1
import Derived.Test.YtbjghkngijepbaaGreatDoorScriptManyC2
import Derived.Test.YtbjghkngijepbaaGreatDoorScriptManyC3
import Derived.Test.YtbjghkngijepbaaGreatDoorScriptManyC4
import Derived.Test.YtbjghkngijepbaaGreatDoorScriptManyC5
import Derived.WalkKit
import Derived.ProofKit
import Derived.OpenShut
import Derived.Deep.DeepHandedRow
import Derived.KernelRfl
namespace Go.Proofs.YtbjghkngijepbaaGreatDoor.scriptMany
open Go.ChangeShapes Go.WideShapes Go.ChangeAt Go.RowKit
set_option maxRecDepth 100000
theorem bothB {a b : Bool} (ha : a = true) (hb : b = true) : (a && b) = true := by rw [ha, hb]; rfl
theorem closed:joinedFacts Tryz.pinned.checked.prog 4 Tryz.f4 (OpenSpec.ofChange Rows.scriptManySpec).bare Rows.scriptManyRow=true := by
  unfold joinedFacts
  exact (bothB (bothB (bothB (bothB (bothB (bothB (bothB (bothB (bothB (bothB (bothB (bothB (bothB (bothB (bothB (bothB (bothB (bothB (bothB (bothB (bothB (bothB (bothB (bothB (bothB (bothB (bothB (bothB (bothB (bothB (bothB cj0 cj1) cj2) cj3) cj4) cj5) cj6) cj7) cj8) cj9) cj10) cj11) cj12) cj13) cj14) cj15) cj16) cj17) cj18) cj19) cj20) cj21) cj22) cj23) cj24) cj25) cj26) cj27) cj28) cj29) cj30) cj31)
end Go.Proofs.YtbjghkngijepbaaGreatDoor.scriptMany
