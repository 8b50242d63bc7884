/-
  DERIVED. GIVEN WITH THE SEED: THE CARDS: each row of YtdgefeadbcbglaaDoorRows.lean that lists a variable, with what it lists TIED to the program's text (the seventh form; the later family's looks); each row that meets fmt, with fmt's text TOLD by the authors' own Lean function (tested against real Go, not proved from fmt's source: count such statements apart). THE CARD IS WHAT COUNTS. Prove the row's statement (the work); the ties are given (YtdgefeadbcbglaaDoorTie.lean); close each card by the builder's one call (the guide's Derived/Test/ToyasCard.lean, 'card_holds'). Laid BY PROGRAM, IN A SANDBOX (cutbox-door.mjs). By AI agents, Wed Nov 11 2026. No macro, syntax, notation, axiom, sorry.
-/
import Derived.Test.YtdgefeadbcbglaaDoorRows
import GoSem.ClaimSeven
namespace Go.Proofs.YtdgefeadbcbglaaDoor
namespace Rows

/-- THE TIED CARD OF 'stillroomlaw18.MessageMany'. -/
def messageManyCard : Claim7 := { stood := { row := messageManyRow, standIns := [], harness := (true, "ac52df3561409d66b8a69e95095af46d403166292a5343ab94a214e1a386f8da"), looks := true }, kinds := [], alts := [], laidByText := true, laidKinds := [.data, .pinned], laidTests := true, laidLooks := .later }
def MessageManyCardSaid : Prop := Claim7.holds Tryd.pinned (.plain (OpenSpec.ofChange messageManySpec)) messageManyCard

/-- THE TIED CARD OF 'stillroomlaw8.SegmentBad'. -/
def segmentBadCard : Claim7 := { stood := { row := segmentBadRow, standIns := [], harness := (true, "ac52df3561409d66b8a69e95095af46d403166292a5343ab94a214e1a386f8da"), looks := true }, kinds := [], alts := [], laidByText := true, laidKinds := [.data, .data, .data], laidTests := true, laidLooks := .later }
def SegmentBadCardSaid : Prop := Claim7.holds Tryd.pinned (.plain (OpenSpec.ofChange segmentBadSpec)) segmentBadCard

/-- THE TIED CARD OF 'stillroomlaw8.SegmentFails'. -/
def segmentFailsCard : Claim7 := { stood := { row := segmentFailsRow, standIns := [], harness := (true, "ac52df3561409d66b8a69e95095af46d403166292a5343ab94a214e1a386f8da"), looks := true }, kinds := [], alts := [], laidByText := true, laidKinds := [.data, .data, .data], laidTests := true, laidLooks := .later }
def SegmentFailsCardSaid : Prop := Claim7.holds Tryd.pinned (.plain (OpenSpec.ofChange segmentFailsSpec)) segmentFailsCard

/-- THE TIED CARD OF 'stillroomlaw8.SegmentAny'. -/
def segmentAnyCard : Claim7 := { stood := { row := segmentAnyRow, standIns := [], harness := (true, "ac52df3561409d66b8a69e95095af46d403166292a5343ab94a214e1a386f8da"), looks := true }, kinds := [], alts := [], laidByText := true, laidKinds := [.data, .data, .data], laidTests := true, laidLooks := .later }
def SegmentAnyCardSaid : Prop := Claim7.holds Tryd.pinned (.plain (OpenSpec.ofChange segmentAnySpec)) segmentAnyCard

/-- THE SECOND FORM's CARD OF 'stillroomlaw18.MessageMany'. -/
def messageManyUptoCard : Claim7 := { stood := { row := messageManyUptoRow, standIns := [], harness := (true, "ac52df3561409d66b8a69e95095af46d403166292a5343ab94a214e1a386f8da"), looks := true }, kinds := [], alts := [], laidByText := true, laidKinds := [.data, .pinned], laidTests := true, laidLooks := .later }
def MessageManyUptoCardSaid : Prop := Claim7.holds Tryd.pinned (.plain (OpenSpec.upto messageManySpec)) messageManyUptoCard

/-- THE SECOND FORM's CARD OF 'stillroomlaw8.SegmentBad'. -/
def segmentBadUptoCard : Claim7 := { stood := { row := segmentBadUptoRow, standIns := [], harness := (true, "ac52df3561409d66b8a69e95095af46d403166292a5343ab94a214e1a386f8da"), looks := true }, kinds := [], alts := [], laidByText := true, laidKinds := [.data, .data, .data], laidTests := true, laidLooks := .later }
def SegmentBadUptoCardSaid : Prop := Claim7.holds Tryd.pinned (.plain (OpenSpec.upto segmentBadSpec)) segmentBadUptoCard

/-- THE SECOND FORM's CARD OF 'stillroomlaw8.SegmentFails'. -/
def segmentFailsUptoCard : Claim7 := { stood := { row := segmentFailsUptoRow, standIns := [], harness := (true, "ac52df3561409d66b8a69e95095af46d403166292a5343ab94a214e1a386f8da"), looks := true }, kinds := [], alts := [], laidByText := true, laidKinds := [.data, .data, .data], laidTests := true, laidLooks := .later }
def SegmentFailsUptoCardSaid : Prop := Claim7.holds Tryd.pinned (.plain (OpenSpec.upto segmentFailsSpec)) segmentFailsUptoCard

/-- THE SECOND FORM's CARD OF 'stillroomlaw8.SegmentAny'. -/
def segmentAnyUptoCard : Claim7 := { stood := { row := segmentAnyUptoRow, standIns := [], harness := (true, "ac52df3561409d66b8a69e95095af46d403166292a5343ab94a214e1a386f8da"), looks := true }, kinds := [], alts := [], laidByText := true, laidKinds := [.data, .data, .data], laidTests := true, laidLooks := .later }
def SegmentAnyUptoCardSaid : Prop := Claim7.holds Tryd.pinned (.plain (OpenSpec.upto segmentAnySpec)) segmentAnyUptoCard
end Rows
end Go.Proofs.YtdgefeadbcbglaaDoor
