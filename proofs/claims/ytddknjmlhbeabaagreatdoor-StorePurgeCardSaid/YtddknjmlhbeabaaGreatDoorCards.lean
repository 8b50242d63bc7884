/-
  DERIVED. GIVEN WITH THE SEED: THE CARDS: each row of YtddknjmlhbeabaaGreatDoorRows.lean that lists a variable, with what it lists TIED to the program's text (the seventh form; the later family's looks); each row that meets fmt, with fmt's text TOLD by the authors' own Lean function (tested against real Go, not proved from fmt's source: count such statements apart). THE CARD IS WHAT COUNTS. Prove the row's statement (the work); the ties are given (YtddknjmlhbeabaaGreatDoorTie.lean); close each card by the builder's one call (the guide's Derived/Test/ToyasCard.lean, 'card_holds'). Laid BY PROGRAM, IN A SANDBOX (cutbox-door.mjs). By AI agents, Wed Nov 11 2026. No macro, syntax, notation, axiom, sorry.
-/
import Derived.Test.YtddknjmlhbeabaaGreatDoorRows
import GoSem.ClaimSeven
namespace Go.Proofs.YtddknjmlhbeabaaGreatDoor
namespace Rows

/-- THE TIED CARD OF 'stillroomlaw8.SegmentMany'. -/
def segmentManyCard : Claim7 := { stood := { row := segmentManyRow, standIns := [], harness := (true, "5d9f9d069fabf364c9945332a000e2eba2dd8a76df35092ee05d89701e9e9b45"), looks := true }, kinds := [], alts := [], laidByText := true, laidKinds := [.data, .data, .data], laidTests := true, laidLooks := .later }
def SegmentManyCardSaid : Prop := Claim7.holds Tryz.pinned (.plain (OpenSpec.ofChange segmentManySpec)) segmentManyCard

/-- THE TIED CARD OF 'stillroomlaw14.StorePurge'. -/
def storePurgeCard : Claim7 := { stood := { row := storePurgeRow, standIns := [], harness := (true, "5d9f9d069fabf364c9945332a000e2eba2dd8a76df35092ee05d89701e9e9b45"), looks := true }, kinds := [], alts := [], laidByText := true, laidKinds := [.data, .data, .data], laidTests := true, laidLooks := .later }
def StorePurgeCardSaid : Prop := Claim7.holds Tryz.pinned (.plain (OpenSpec.ofChange storePurgeSpec)) storePurgeCard

/-- THE SECOND FORM's CARD OF 'stillroomlaw8.SegmentMany'. -/
def segmentManyUptoCard : Claim7 := { stood := { row := segmentManyUptoRow, standIns := [], harness := (true, "5d9f9d069fabf364c9945332a000e2eba2dd8a76df35092ee05d89701e9e9b45"), looks := true }, kinds := [], alts := [], laidByText := true, laidKinds := [.data, .data, .data], laidTests := true, laidLooks := .later }
def SegmentManyUptoCardSaid : Prop := Claim7.holds Tryz.pinned (.plain (OpenSpec.upto segmentManySpec)) segmentManyUptoCard

/-- THE SECOND FORM's CARD OF 'stillroomlaw14.StorePurge'. -/
def storePurgeUptoCard : Claim7 := { stood := { row := storePurgeUptoRow, standIns := [], harness := (true, "5d9f9d069fabf364c9945332a000e2eba2dd8a76df35092ee05d89701e9e9b45"), looks := true }, kinds := [], alts := [], laidByText := true, laidKinds := [.data, .data, .data], laidTests := true, laidLooks := .later }
def StorePurgeUptoCardSaid : Prop := Claim7.holds Tryz.pinned (.plain (OpenSpec.upto storePurgeSpec)) storePurgeUptoCard
end Rows
end Go.Proofs.YtddknjmlhbeabaaGreatDoor
