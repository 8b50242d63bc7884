/-
  DERIVED. GIVEN WITH THE SEED: THE CARDS: each row of YtnelgnghdioapaaGreatDoorRows.lean that lists a variable, with what it lists TIED to the program's text (the seventh form; the later family's looks); each row that meets fmt, with fmt's text TOLD by the authors' own Lean function (tested against real Go, not proved from fmt's source: count such statements apart). THE CARD IS WHAT COUNTS. Prove the row's statement (the work); the ties are given (YtnelgnghdioapaaGreatDoorTie.lean); close each card by the builder's one call (the guide's Derived/Test/ToyasCard.lean, 'card_holds'). Laid BY PROGRAM, IN A SANDBOX (cutbox-door.mjs). By AI agents, Wed Nov 11 2026. No macro, syntax, notation, axiom, sorry.
-/
import Derived.Test.YtnelgnghdioapaaGreatDoorRows
import GoSem.ClaimSeven
namespace Go.Proofs.YtnelgnghdioapaaGreatDoor
namespace Rows

/-- THE TIED CARD OF 'stillroomlaw25.FillLate'. -/
def fillLateCard : Claim7 := { stood := { row := fillLateRow, standIns := [], harness := (true, "184e2a9ca4f2b4b26cd2d54467af2ea4fe04b97dae09af837ff638c9a9256771"), looks := true }, kinds := [], alts := [], laidByText := true, laidKinds := [.data, .data, .data], laidTests := true, laidLooks := .later }
def FillLateCardSaid : Prop := Claim7.holds Tryz.pinned (.plain (OpenSpec.ofChange fillLateSpec)) fillLateCard

/-- THE TIED CARD OF 'stillroomtop.TopEveryCrash'. -/
def topEveryCrashCard : Claim7 := { stood := { row := topEveryCrashRow, standIns := [], harness := (true, "184e2a9ca4f2b4b26cd2d54467af2ea4fe04b97dae09af837ff638c9a9256771"), looks := true }, kinds := [], alts := [], laidByText := true, laidKinds := [.data, .data, .data, .data, .pinned], laidTests := true, laidLooks := .later }
def TopEveryCrashCardSaid : Prop := Claim7.holds Tryz.pinned (.plain (OpenSpec.ofChange topEveryCrashSpec)) topEveryCrashCard

/-- THE TIED CARD OF 'stillroomtop.TopFails'. -/
def topFailsCard : Claim7 := { stood := { row := topFailsRow, standIns := [], harness := (true, "184e2a9ca4f2b4b26cd2d54467af2ea4fe04b97dae09af837ff638c9a9256771"), looks := true }, kinds := [], alts := [], laidByText := true, laidKinds := [.data, .data, .data, .data, .pinned], laidTests := true, laidLooks := .later }
def TopFailsCardSaid : Prop := Claim7.holds Tryz.pinned (.plain (OpenSpec.ofChange topFailsSpec)) topFailsCard

/-- THE TIED CARD OF 'stillroomtop.TopOverwrite'. -/
def topOverwriteCard : Claim7 := { stood := { row := topOverwriteRow, standIns := [], harness := (true, "184e2a9ca4f2b4b26cd2d54467af2ea4fe04b97dae09af837ff638c9a9256771"), looks := true }, kinds := [], alts := [], laidByText := true, laidKinds := [.data, .data, .data, .data, .pinned], laidTests := true, laidLooks := .later }
def TopOverwriteCardSaid : Prop := Claim7.holds Tryz.pinned (.plain (OpenSpec.ofChange topOverwriteSpec)) topOverwriteCard

/-- THE TIED CARD OF 'stillroomtop.TopNoRoom'. -/
def topNoRoomCard : Claim7 := { stood := { row := topNoRoomRow, standIns := [], harness := (true, "184e2a9ca4f2b4b26cd2d54467af2ea4fe04b97dae09af837ff638c9a9256771"), looks := true }, kinds := [], alts := [], laidByText := true, laidKinds := [.data, .data, .data, .data, .pinned], laidTests := true, laidLooks := .later }
def TopNoRoomCardSaid : Prop := Claim7.holds Tryz.pinned (.plain (OpenSpec.ofChange topNoRoomSpec)) topNoRoomCard

/-- THE SECOND FORM's CARD OF 'stillroomlaw25.FillLate'. -/
def fillLateUptoCard : Claim7 := { stood := { row := fillLateUptoRow, standIns := [], harness := (true, "184e2a9ca4f2b4b26cd2d54467af2ea4fe04b97dae09af837ff638c9a9256771"), looks := true }, kinds := [], alts := [], laidByText := true, laidKinds := [.data, .data, .data], laidTests := true, laidLooks := .later }
def FillLateUptoCardSaid : Prop := Claim7.holds Tryz.pinned (.plain (OpenSpec.upto fillLateSpec)) fillLateUptoCard

/-- THE SECOND FORM's CARD OF 'stillroomtop.TopEveryCrash'. -/
def topEveryCrashUptoCard : Claim7 := { stood := { row := topEveryCrashUptoRow, standIns := [], harness := (true, "184e2a9ca4f2b4b26cd2d54467af2ea4fe04b97dae09af837ff638c9a9256771"), looks := true }, kinds := [], alts := [], laidByText := true, laidKinds := [.data, .data, .data, .data, .pinned], laidTests := true, laidLooks := .later }
def TopEveryCrashUptoCardSaid : Prop := Claim7.holds Tryz.pinned (.plain (OpenSpec.upto topEveryCrashSpec)) topEveryCrashUptoCard

/-- THE SECOND FORM's CARD OF 'stillroomtop.TopFails'. -/
def topFailsUptoCard : Claim7 := { stood := { row := topFailsUptoRow, standIns := [], harness := (true, "184e2a9ca4f2b4b26cd2d54467af2ea4fe04b97dae09af837ff638c9a9256771"), looks := true }, kinds := [], alts := [], laidByText := true, laidKinds := [.data, .data, .data, .data, .pinned], laidTests := true, laidLooks := .later }
def TopFailsUptoCardSaid : Prop := Claim7.holds Tryz.pinned (.plain (OpenSpec.upto topFailsSpec)) topFailsUptoCard

/-- THE SECOND FORM's CARD OF 'stillroomtop.TopOverwrite'. -/
def topOverwriteUptoCard : Claim7 := { stood := { row := topOverwriteUptoRow, standIns := [], harness := (true, "184e2a9ca4f2b4b26cd2d54467af2ea4fe04b97dae09af837ff638c9a9256771"), looks := true }, kinds := [], alts := [], laidByText := true, laidKinds := [.data, .data, .data, .data, .pinned], laidTests := true, laidLooks := .later }
def TopOverwriteUptoCardSaid : Prop := Claim7.holds Tryz.pinned (.plain (OpenSpec.upto topOverwriteSpec)) topOverwriteUptoCard

/-- THE SECOND FORM's CARD OF 'stillroomtop.TopNoRoom'. -/
def topNoRoomUptoCard : Claim7 := { stood := { row := topNoRoomUptoRow, standIns := [], harness := (true, "184e2a9ca4f2b4b26cd2d54467af2ea4fe04b97dae09af837ff638c9a9256771"), looks := true }, kinds := [], alts := [], laidByText := true, laidKinds := [.data, .data, .data, .data, .pinned], laidTests := true, laidLooks := .later }
def TopNoRoomUptoCardSaid : Prop := Claim7.holds Tryz.pinned (.plain (OpenSpec.upto topNoRoomSpec)) topNoRoomUptoCard
end Rows
end Go.Proofs.YtnelgnghdioapaaGreatDoor
