/- The closed facts of stillroomlaw8.SegmentBad's row. -/
import Derived.Test.YtdgefeadbcbglaaDoorCards
import Derived.Test.YtdgefeadbcbglaaDoorTie
import Derived.WalkKit
import Derived.ProofKit
import Derived.OpenShut
import Derived.Deep.DeepHandedRow
import Derived.KernelRfl
namespace Go.Proofs.YtdgefeadbcbglaaDoor.segmentBad
open Go.ChangeShapes Go.WideShapes Go.ChangeAt Go.RowKit
set_option maxRecDepth 100000
set_option maxHeartbeats 16000000 in
theorem closed:joinedFacts Tryd.pinned.checked.prog 4 Tryd.f4 (OpenSpec.ofChange Rows.segmentBadSpec).bare Rows.segmentBadRow=true := by
  simp only [joinedFacts, Bool.and_eq_true]
  repeat' (refine And.intro ?_ ?_)
  all_goals as_aux_lemma => kernel_rfl
end Go.Proofs.YtdgefeadbcbglaaDoor.segmentBad
