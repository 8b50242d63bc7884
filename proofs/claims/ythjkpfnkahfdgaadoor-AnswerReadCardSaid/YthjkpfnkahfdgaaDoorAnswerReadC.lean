/- The closed facts of stillroomlaw24.AnswerRead's row. -/
import Derived.Test.YthjkpfnkahfdgaaDoorCards
import Derived.Test.YthjkpfnkahfdgaaDoorTie
import Derived.WalkKit
import Derived.ProofKit
import Derived.OpenShut
import Derived.Deep.DeepHandedRow
import Derived.KernelRfl
namespace Go.Proofs.YthjkpfnkahfdgaaDoor.answerRead
open Go.ChangeShapes Go.WideShapes Go.ChangeAt Go.RowKit
set_option maxRecDepth 100000
set_option maxHeartbeats 16000000 in
theorem closed : joinedFacts Tryd.pinned.checked.prog 3 Tryd.f3 (OpenSpec.ofChange Rows.answerReadSpec).bare Rows.answerReadRow = true := by
  simp only [joinedFacts, Bool.and_eq_true]
  repeat' (refine And.intro ?_ ?_)
  all_goals as_aux_lemma => kernel_rfl
end Go.Proofs.YthjkpfnkahfdgaaDoor.answerRead
