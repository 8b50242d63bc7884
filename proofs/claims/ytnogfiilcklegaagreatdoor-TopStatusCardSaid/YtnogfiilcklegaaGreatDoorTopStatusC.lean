/- The closed facts of stillroomtop.TopStatus's row. -/
import Derived.Test.YtnogfiilcklegaaGreatDoorCards
import Derived.Test.YtnogfiilcklegaaGreatDoorTie
import Derived.WalkKit
import Derived.ProofKit
import Derived.OpenShut
import Derived.Deep.DeepHandedRow
import Derived.KernelRfl
namespace Go.Proofs.YtnogfiilcklegaaGreatDoor.topStatus
open Go.ChangeShapes Go.WideShapes Go.ChangeAt Go.RowKit
set_option maxRecDepth 100000
set_option maxHeartbeats 16000000 in
theorem closed : joinedFacts Tryz.pinned.checked.prog 10 Tryz.f10 (OpenSpec.ofChange Rows.topStatusSpec).bare Rows.topStatusRow = true := by
  simp only [joinedFacts, Bool.and_eq_true]
  repeat' (refine And.intro ?_ ?_)
  all_goals as_aux_lemma => kernel_rfl
end Go.Proofs.YtnogfiilcklegaaGreatDoor.topStatus
