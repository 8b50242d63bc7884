/- The closed facts of stillroomtop.TopOverwrite's row. -/
import Derived.Test.YtijkeeoabcoidaaGreatDoorCards
import Derived.Test.YtijkeeoabcoidaaGreatDoorTie
import Derived.WalkKit
import Derived.ProofKit
import Derived.OpenShut
import Derived.Deep.DeepHandedRow
import Derived.KernelRfl
namespace Go.Proofs.YtijkeeoabcoidaaGreatDoor.topOverwrite
open Go.ChangeShapes Go.WideShapes Go.ChangeAt Go.RowKit
set_option maxRecDepth 100000
set_option maxHeartbeats 16000000 in
theorem closed : joinedFacts Tryz.pinned.checked.prog 3 Tryz.f3 (OpenSpec.ofChange Rows.topOverwriteSpec).bare Rows.topOverwriteRow = true := by
  simp only [joinedFacts, Bool.and_eq_true]
  repeat' (refine And.intro ?_ ?_)
  all_goals as_aux_lemma => kernel_rfl
end Go.Proofs.YtijkeeoabcoidaaGreatDoor.topOverwrite
