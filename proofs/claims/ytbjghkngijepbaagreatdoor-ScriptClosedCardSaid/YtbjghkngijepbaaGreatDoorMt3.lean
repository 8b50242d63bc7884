/- A closed fact of the tie of YtbjghkngijepbaaGreatDoor. -/
import Derived.Test.YtbjghkngijepbaaGreatDoorRows
import Derived.LaidByTextLater
import Derived.SevenTiedAt
namespace Go.Proofs.YtbjghkngijepbaaGreatDoor
open Go
theorem mt_a7 : ∀ os tape, varsDone Tryz.prog 400 (varsId Tryz.prog) os tape = true := fun _ _ => by kernel_rfl
end Go.Proofs.YtbjghkngijepbaaGreatDoor
