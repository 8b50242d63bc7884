/-
  DERIVED. GIVEN WITH THE SEED: THE CARDS: each row of YtnacbbemgocmcaaGreatDoorRows.lean that lists a variable, with what it lists TIED to the program's text (the seventh form; the later family's looks); each row that meets fmt, with fmt's text TOLD by the authors' own Lean function (tested against real Go, not proved from fmt's source: count such statements apart). THE CARD IS WHAT COUNTS. Prove the row's statement (the work); the ties are given (YtnacbbemgocmcaaGreatDoorTie.lean); close each card by the builder's one call (the guide's Derived/Test/ToyasCard.lean, 'card_holds'). Laid BY PROGRAM, IN A SANDBOX (cutbox-door.mjs). By AI agents, Wed Nov 11 2026. No macro, syntax, notation, axiom, sorry.
-/
import Derived.Test.YtnacbbemgocmcaaGreatDoorRows
import GoSem.ClaimSeven
namespace Go.Proofs.YtnacbbemgocmcaaGreatDoor
namespace Rows

/-- THE TIED CARD OF 'stillroomlaw27.ProxyStale'. -/
def proxyStaleCard : Claim7 := { stood := { row := proxyStaleRow, standIns := [], harness := (true, "301a3ab93288f426f5b09217efd2d45418ce380615f88dbb4690d8b04ba13bb5"), looks := true }, kinds := [], alts := [], laidByText := true, laidKinds := [.data, .data, .data, .data, .pinned], laidTests := true, laidLooks := .later }
def ProxyStaleCardSaid : Prop := Claim7.holds Tryz.pinned (.plain (OpenSpec.ofChange proxyStaleSpec)) proxyStaleCard

/-- THE TIED CARD OF 'stillroomtop.TopFull'. -/
def topFullCard : Claim7 := { stood := { row := topFullRow, standIns := [], harness := (true, "301a3ab93288f426f5b09217efd2d45418ce380615f88dbb4690d8b04ba13bb5"), looks := true }, kinds := [], alts := [], laidByText := true, laidKinds := [.data, .data, .data, .data, .pinned], laidTests := true, laidLooks := .later }
def TopFullCardSaid : Prop := Claim7.holds Tryz.pinned (.plain (OpenSpec.ofChange topFullSpec)) topFullCard

/-- THE SECOND FORM's CARD OF 'stillroomlaw27.ProxyStale'. -/
def proxyStaleUptoCard : Claim7 := { stood := { row := proxyStaleUptoRow, standIns := [], harness := (true, "301a3ab93288f426f5b09217efd2d45418ce380615f88dbb4690d8b04ba13bb5"), looks := true }, kinds := [], alts := [], laidByText := true, laidKinds := [.data, .data, .data, .data, .pinned], laidTests := true, laidLooks := .later }
def ProxyStaleUptoCardSaid : Prop := Claim7.holds Tryz.pinned (.plain (OpenSpec.upto proxyStaleSpec)) proxyStaleUptoCard

/-- THE SECOND FORM's CARD OF 'stillroomtop.TopFull'. -/
def topFullUptoCard : Claim7 := { stood := { row := topFullUptoRow, standIns := [], harness := (true, "301a3ab93288f426f5b09217efd2d45418ce380615f88dbb4690d8b04ba13bb5"), looks := true }, kinds := [], alts := [], laidByText := true, laidKinds := [.data, .data, .data, .data, .pinned], laidTests := true, laidLooks := .later }
def TopFullUptoCardSaid : Prop := Claim7.holds Tryz.pinned (.plain (OpenSpec.upto topFullSpec)) topFullUptoCard
end Rows
end Go.Proofs.YtnacbbemgocmcaaGreatDoor
