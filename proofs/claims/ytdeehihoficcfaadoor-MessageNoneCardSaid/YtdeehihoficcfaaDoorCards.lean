/-
  DERIVED. GIVEN WITH THE SEED: THE CARDS: each row of YtdeehihoficcfaaDoorRows.lean that lists a variable, with what it lists TIED to the program's text (the seventh form; the later family's looks); each row that meets fmt, with fmt's text TOLD by the authors' own Lean function (tested against real Go, not proved from fmt's source: count such statements apart). THE CARD IS WHAT COUNTS. Prove the row's statement (the work); the ties are given (YtdeehihoficcfaaDoorTie.lean); close each card by the builder's one call (the guide's Derived/Test/ToyasCard.lean, 'card_holds'). Laid BY PROGRAM, IN A SANDBOX (cutbox-door.mjs). By AI agents, Wed Nov 11 2026. No macro, syntax, notation, axiom, sorry.
-/
import Derived.Test.YtdeehihoficcfaaDoorRows
import GoSem.ClaimSeven
namespace Go.Proofs.YtdeehihoficcfaaDoor
namespace Rows

/-- THE TIED CARD OF 'stillroomlaw18.MessageNone'. -/
def messageNoneCard : Claim7 := { stood := { row := messageNoneRow, standIns := [], harness := (true, "d68d40462ed52cb4b5a4a045fb21e178d11d090366430ed942d759944181c7fc"), looks := true }, kinds := [], alts := [], laidByText := true, laidKinds := [.data, .pinned], laidTests := true, laidLooks := .later }
def MessageNoneCardSaid : Prop := Claim7.holds Tryd.pinned (.plain (OpenSpec.ofChange messageNoneSpec)) messageNoneCard

/-- THE TIED CARD OF 'stillroomlaw8.SegmentNone'. -/
def segmentNoneCard : Claim7 := { stood := { row := segmentNoneRow, standIns := [], harness := (true, "d68d40462ed52cb4b5a4a045fb21e178d11d090366430ed942d759944181c7fc"), looks := true }, kinds := [], alts := [], laidByText := true, laidKinds := [.data, .data, .data], laidTests := true, laidLooks := .later }
def SegmentNoneCardSaid : Prop := Claim7.holds Tryd.pinned (.plain (OpenSpec.ofChange segmentNoneSpec)) segmentNoneCard

/-- THE SECOND FORM's CARD OF 'stillroomlaw18.MessageNone'. -/
def messageNoneUptoCard : Claim7 := { stood := { row := messageNoneUptoRow, standIns := [], harness := (true, "d68d40462ed52cb4b5a4a045fb21e178d11d090366430ed942d759944181c7fc"), looks := true }, kinds := [], alts := [], laidByText := true, laidKinds := [.data, .pinned], laidTests := true, laidLooks := .later }
def MessageNoneUptoCardSaid : Prop := Claim7.holds Tryd.pinned (.plain (OpenSpec.upto messageNoneSpec)) messageNoneUptoCard

/-- THE SECOND FORM's CARD OF 'stillroomlaw8.SegmentNone'. -/
def segmentNoneUptoCard : Claim7 := { stood := { row := segmentNoneUptoRow, standIns := [], harness := (true, "d68d40462ed52cb4b5a4a045fb21e178d11d090366430ed942d759944181c7fc"), looks := true }, kinds := [], alts := [], laidByText := true, laidKinds := [.data, .data, .data], laidTests := true, laidLooks := .later }
def SegmentNoneUptoCardSaid : Prop := Claim7.holds Tryd.pinned (.plain (OpenSpec.upto segmentNoneSpec)) segmentNoneUptoCard
end Rows
end Go.Proofs.YtdeehihoficcfaaDoor
