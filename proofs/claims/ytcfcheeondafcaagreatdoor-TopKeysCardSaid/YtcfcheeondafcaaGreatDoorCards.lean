/-
  DERIVED. GIVEN WITH THE SEED: THE CARDS: each row of YtcfcheeondafcaaGreatDoorRows.lean that lists a variable, with what it lists TIED to the program's text (the seventh form; the later family's looks); each row that meets fmt, with fmt's text TOLD by the authors' own Lean function (tested against real Go, not proved from fmt's source: count such statements apart). THE CARD IS WHAT COUNTS. Prove the row's statement (the work); the ties are given (YtcfcheeondafcaaGreatDoorTie.lean); close each card by the builder's one call (the guide's Derived/Test/ToyasCard.lean, 'card_holds'). Laid BY PROGRAM, IN A SANDBOX (cutbox-door.mjs). By AI agents, Wed Nov 11 2026. No macro, syntax, notation, axiom, sorry.
-/
import Derived.Test.YtcfcheeondafcaaGreatDoorRows
import GoSem.ClaimSeven
namespace Go.Proofs.YtcfcheeondafcaaGreatDoor
namespace Rows

/-- THE TIED CARD OF 'stillroomtop.TopKeys'. -/
def topKeysCard : Claim7 := { stood := { row := topKeysRow, standIns := [], harness := (true, "263a1058a5c4e3396439c539b8d13ea650f2f2729000e96f38f2ad65e3dbbce4"), looks := true }, kinds := [], alts := [], laidByText := true, laidKinds := [.data, .data, .data, .data, .pinned], laidTests := true, laidLooks := .later }
def TopKeysCardSaid : Prop := Claim7.holds Tryz.pinned (.plain (OpenSpec.ofChange topKeysSpec)) topKeysCard

/-- THE TIED CARD OF 'stillroomtop.TopEveryCrash'. -/
def topEveryCrashCard : Claim7 := { stood := { row := topEveryCrashRow, standIns := [], harness := (true, "263a1058a5c4e3396439c539b8d13ea650f2f2729000e96f38f2ad65e3dbbce4"), looks := true }, kinds := [], alts := [], laidByText := true, laidKinds := [.data, .data, .data, .data, .pinned], laidTests := true, laidLooks := .later }
def TopEveryCrashCardSaid : Prop := Claim7.holds Tryz.pinned (.plain (OpenSpec.ofChange topEveryCrashSpec)) topEveryCrashCard

/-- THE TIED CARD OF 'stillroomtop.TopClean'. -/
def topCleanCard : Claim7 := { stood := { row := topCleanRow, standIns := [], harness := (true, "263a1058a5c4e3396439c539b8d13ea650f2f2729000e96f38f2ad65e3dbbce4"), looks := true }, kinds := [], alts := [], laidByText := true, laidKinds := [.data, .data, .data, .data, .pinned], laidTests := true, laidLooks := .later }
def TopCleanCardSaid : Prop := Claim7.holds Tryz.pinned (.plain (OpenSpec.ofChange topCleanSpec)) topCleanCard

/-- THE TIED CARD OF 'stillroomtop.TopOverwrite'. -/
def topOverwriteCard : Claim7 := { stood := { row := topOverwriteRow, standIns := [], harness := (true, "263a1058a5c4e3396439c539b8d13ea650f2f2729000e96f38f2ad65e3dbbce4"), looks := true }, kinds := [], alts := [], laidByText := true, laidKinds := [.data, .data, .data, .data, .pinned], laidTests := true, laidLooks := .later }
def TopOverwriteCardSaid : Prop := Claim7.holds Tryz.pinned (.plain (OpenSpec.ofChange topOverwriteSpec)) topOverwriteCard

/-- THE SECOND FORM's CARD OF 'stillroomtop.TopKeys'. -/
def topKeysUptoCard : Claim7 := { stood := { row := topKeysUptoRow, standIns := [], harness := (true, "263a1058a5c4e3396439c539b8d13ea650f2f2729000e96f38f2ad65e3dbbce4"), looks := true }, kinds := [], alts := [], laidByText := true, laidKinds := [.data, .data, .data, .data, .pinned], laidTests := true, laidLooks := .later }
def TopKeysUptoCardSaid : Prop := Claim7.holds Tryz.pinned (.plain (OpenSpec.upto topKeysSpec)) topKeysUptoCard

/-- THE SECOND FORM's CARD OF 'stillroomtop.TopEveryCrash'. -/
def topEveryCrashUptoCard : Claim7 := { stood := { row := topEveryCrashUptoRow, standIns := [], harness := (true, "263a1058a5c4e3396439c539b8d13ea650f2f2729000e96f38f2ad65e3dbbce4"), looks := true }, kinds := [], alts := [], laidByText := true, laidKinds := [.data, .data, .data, .data, .pinned], laidTests := true, laidLooks := .later }
def TopEveryCrashUptoCardSaid : Prop := Claim7.holds Tryz.pinned (.plain (OpenSpec.upto topEveryCrashSpec)) topEveryCrashUptoCard

/-- THE SECOND FORM's CARD OF 'stillroomtop.TopClean'. -/
def topCleanUptoCard : Claim7 := { stood := { row := topCleanUptoRow, standIns := [], harness := (true, "263a1058a5c4e3396439c539b8d13ea650f2f2729000e96f38f2ad65e3dbbce4"), looks := true }, kinds := [], alts := [], laidByText := true, laidKinds := [.data, .data, .data, .data, .pinned], laidTests := true, laidLooks := .later }
def TopCleanUptoCardSaid : Prop := Claim7.holds Tryz.pinned (.plain (OpenSpec.upto topCleanSpec)) topCleanUptoCard

/-- THE SECOND FORM's CARD OF 'stillroomtop.TopOverwrite'. -/
def topOverwriteUptoCard : Claim7 := { stood := { row := topOverwriteUptoRow, standIns := [], harness := (true, "263a1058a5c4e3396439c539b8d13ea650f2f2729000e96f38f2ad65e3dbbce4"), looks := true }, kinds := [], alts := [], laidByText := true, laidKinds := [.data, .data, .data, .data, .pinned], laidTests := true, laidLooks := .later }
def TopOverwriteUptoCardSaid : Prop := Claim7.holds Tryz.pinned (.plain (OpenSpec.upto topOverwriteSpec)) topOverwriteUptoCard
end Rows
end Go.Proofs.YtcfcheeondafcaaGreatDoor
