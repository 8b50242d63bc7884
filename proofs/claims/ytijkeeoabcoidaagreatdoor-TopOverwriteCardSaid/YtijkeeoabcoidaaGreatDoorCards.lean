/-
  DERIVED. GIVEN WITH THE SEED: THE CARDS: each row of YtijkeeoabcoidaaGreatDoorRows.lean that lists a variable, with what it lists TIED to the program's text (the seventh form; the later family's looks); each row that meets fmt, with fmt's text TOLD by the authors' own Lean function (tested against real Go, not proved from fmt's source: count such statements apart). THE CARD IS WHAT COUNTS. Prove the row's statement (the work); the ties are given (YtijkeeoabcoidaaGreatDoorTie.lean); close each card by the builder's one call (the guide's Derived/Test/ToyasCard.lean, 'card_holds'). Laid BY PROGRAM, IN A SANDBOX (cutbox-door.mjs). By AI agents, Wed Nov 11 2026. No macro, syntax, notation, axiom, sorry.
-/
import Derived.Test.YtijkeeoabcoidaaGreatDoorRows
import GoSem.ClaimSeven
namespace Go.Proofs.YtijkeeoabcoidaaGreatDoor
namespace Rows

/-- THE TIED CARD OF 'stillroomtop.TopOverwrite'. -/
def topOverwriteCard : Claim7 := { stood := { row := topOverwriteRow, standIns := [], harness := (true, "2c32bf76d5b7a6fbb873560c060af80ce37dabea1905ec1c2e20b51df7095995"), looks := true }, kinds := [], alts := [], laidByText := true, laidKinds := [.data, .data, .data, .data, .pinned], laidTests := true, laidLooks := .later }
def TopOverwriteCardSaid : Prop := Claim7.holds Tryz.pinned (.plain (OpenSpec.ofChange topOverwriteSpec)) topOverwriteCard

/-- THE TIED CARD OF 'stillroomtop.TopDelete'. -/
def topDeleteCard : Claim7 := { stood := { row := topDeleteRow, standIns := [], harness := (true, "2c32bf76d5b7a6fbb873560c060af80ce37dabea1905ec1c2e20b51df7095995"), looks := true }, kinds := [], alts := [], laidByText := true, laidKinds := [.data, .data, .data, .data, .pinned], laidTests := true, laidLooks := .later }
def TopDeleteCardSaid : Prop := Claim7.holds Tryz.pinned (.plain (OpenSpec.ofChange topDeleteSpec)) topDeleteCard

/-- THE TIED CARD OF 'stillroomtop.TopClean'. -/
def topCleanCard : Claim7 := { stood := { row := topCleanRow, standIns := [], harness := (true, "2c32bf76d5b7a6fbb873560c060af80ce37dabea1905ec1c2e20b51df7095995"), looks := true }, kinds := [], alts := [], laidByText := true, laidKinds := [.data, .data, .data, .data, .pinned], laidTests := true, laidLooks := .later }
def TopCleanCardSaid : Prop := Claim7.holds Tryz.pinned (.plain (OpenSpec.ofChange topCleanSpec)) topCleanCard

/-- THE SECOND FORM's CARD OF 'stillroomtop.TopOverwrite'. -/
def topOverwriteUptoCard : Claim7 := { stood := { row := topOverwriteUptoRow, standIns := [], harness := (true, "2c32bf76d5b7a6fbb873560c060af80ce37dabea1905ec1c2e20b51df7095995"), looks := true }, kinds := [], alts := [], laidByText := true, laidKinds := [.data, .data, .data, .data, .pinned], laidTests := true, laidLooks := .later }
def TopOverwriteUptoCardSaid : Prop := Claim7.holds Tryz.pinned (.plain (OpenSpec.upto topOverwriteSpec)) topOverwriteUptoCard

/-- THE SECOND FORM's CARD OF 'stillroomtop.TopDelete'. -/
def topDeleteUptoCard : Claim7 := { stood := { row := topDeleteUptoRow, standIns := [], harness := (true, "2c32bf76d5b7a6fbb873560c060af80ce37dabea1905ec1c2e20b51df7095995"), looks := true }, kinds := [], alts := [], laidByText := true, laidKinds := [.data, .data, .data, .data, .pinned], laidTests := true, laidLooks := .later }
def TopDeleteUptoCardSaid : Prop := Claim7.holds Tryz.pinned (.plain (OpenSpec.upto topDeleteSpec)) topDeleteUptoCard

/-- THE SECOND FORM's CARD OF 'stillroomtop.TopClean'. -/
def topCleanUptoCard : Claim7 := { stood := { row := topCleanUptoRow, standIns := [], harness := (true, "2c32bf76d5b7a6fbb873560c060af80ce37dabea1905ec1c2e20b51df7095995"), looks := true }, kinds := [], alts := [], laidByText := true, laidKinds := [.data, .data, .data, .data, .pinned], laidTests := true, laidLooks := .later }
def TopCleanUptoCardSaid : Prop := Claim7.holds Tryz.pinned (.plain (OpenSpec.upto topCleanSpec)) topCleanUptoCard
end Rows
end Go.Proofs.YtijkeeoabcoidaaGreatDoor
