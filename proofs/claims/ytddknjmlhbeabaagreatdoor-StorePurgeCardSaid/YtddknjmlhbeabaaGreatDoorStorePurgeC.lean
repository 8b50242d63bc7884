/- The closed facts of stillroomlaw14.StorePurge's row. -/
import Derived.Test.YtddknjmlhbeabaaGreatDoorCards
import Derived.Test.YtddknjmlhbeabaaGreatDoorTie
import Derived.WalkKit
import Derived.ProofKit
import Derived.OpenShut
import Derived.Deep.DeepHandedRow
import Derived.KernelRfl
namespace Go.Proofs.YtddknjmlhbeabaaGreatDoor.storePurge
open Go.ChangeShapes Go.WideShapes Go.ChangeAt Go.RowKit
set_option maxRecDepth 100000
set_option maxHeartbeats 16000000 in
theorem closed : joinedFacts Tryz.pinned.checked.prog 4 Tryz.f4 (OpenSpec.ofChange Rows.storePurgeSpec).bare Rows.storePurgeRow = true := by
  simp only [joinedFacts, Bool.and_eq_true]
  repeat' (refine And.intro ?_ ?_)
  all_goals as_aux_lemma => kernel_rfl
end Go.Proofs.YtddknjmlhbeabaaGreatDoor.storePurge
