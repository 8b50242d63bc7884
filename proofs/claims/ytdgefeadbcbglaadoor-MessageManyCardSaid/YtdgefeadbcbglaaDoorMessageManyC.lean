/- The closed facts of stillroomlaw18.MessageMany's row. -/
import Derived.Test.YtdgefeadbcbglaaDoorCards
import Derived.Test.YtdgefeadbcbglaaDoorTie
import Derived.WalkKit
import Derived.ProofKit
import Derived.OpenShut
import Derived.Deep.DeepHandedRow
import Derived.KernelRfl
namespace Go.Proofs.YtdgefeadbcbglaaDoor.messageMany
open Go.ChangeShapes Go.WideShapes Go.ChangeAt Go.RowKit
set_option maxRecDepth 100000
set_option maxHeartbeats 16000000 in
theorem closed:joinedFacts Tryd.pinned.checked.prog 3 Tryd.f3 (OpenSpec.ofChange Rows.messageManySpec).bare Rows.messageManyRow=true := by
  simp only [joinedFacts, Bool.and_eq_true]
  repeat' (refine And.intro ?_ ?_)
  all_goals as_aux_lemma => kernel_rfl
end Go.Proofs.YtdgefeadbcbglaaDoor.messageMany
