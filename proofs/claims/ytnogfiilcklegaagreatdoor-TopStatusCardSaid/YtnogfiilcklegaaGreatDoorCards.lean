/-
  DERIVED. GIVEN WITH THE SEED: THE CARDS: each row of YtnogfiilcklegaaGreatDoorRows.lean that lists a variable, with what it lists TIED to the program's text (the seventh form; the later family's looks); each row that meets fmt, with fmt's text TOLD by the authors' own Lean function (tested against real Go, not proved from fmt's source: count such statements apart). THE CARD IS WHAT COUNTS. Prove the row's statement (the work); the ties are given (YtnogfiilcklegaaGreatDoorTie.lean); close each card by the builder's one call (the guide's Derived/Test/ToyasCard.lean, 'card_holds'). Laid BY PROGRAM, IN A SANDBOX (cutbox-door.mjs). By AI agents, Wed Nov 11 2026. No macro, syntax, notation, axiom, sorry.
-/
import Derived.Test.YtnogfiilcklegaaGreatDoorRows
import GoSem.ClaimSeven
namespace Go.Proofs.YtnogfiilcklegaaGreatDoor
namespace Rows

/-- THE TIED CARD OF 'stillroomtop.TopClose'. -/
def topCloseCard : Claim7 := { stood := { row := topCloseRow, standIns := [], harness := (true, "341c2bf3886bbbb88cb89181f1ea5233ce60c1801d9a6d3e3690dec29ad4f5c6"), looks := true }, kinds := [], alts := [], laidByText := true, laidKinds := [.data, .data, .data, .data, .pinned], laidTests := true, laidLooks := .later }
def TopCloseCardSaid : Prop := Claim7.holds Tryz.pinned (.plain (OpenSpec.ofChange topCloseSpec)) topCloseCard

/-- THE TIED CARD OF 'stillroomtop.TopControl'. -/
def topControlCard : Claim7 := { stood := { row := topControlRow, standIns := [], harness := (true, "341c2bf3886bbbb88cb89181f1ea5233ce60c1801d9a6d3e3690dec29ad4f5c6"), looks := true }, kinds := [], alts := [], laidByText := true, laidKinds := [.data, .data, .data, .data, .pinned], laidTests := true, laidLooks := .later }
def TopControlCardSaid : Prop := Claim7.holds Tryz.pinned (.plain (OpenSpec.ofChange topControlSpec)) topControlCard

/-- THE TIED CARD OF 'stillroomtop.TopAsked'. -/
def topAskedCard : Claim7 := { stood := { row := topAskedRow, standIns := [], harness := (true, "341c2bf3886bbbb88cb89181f1ea5233ce60c1801d9a6d3e3690dec29ad4f5c6"), looks := true }, kinds := [], alts := [], laidByText := true, laidKinds := [.data, .data, .data, .data, .pinned], laidTests := true, laidLooks := .later }
def TopAskedCardSaid : Prop := Claim7.holds Tryz.pinned (.plain (OpenSpec.ofChange topAskedSpec)) topAskedCard

/-- THE TIED CARD OF 'stillroomtop.TopAuthorization'. -/
def topAuthorizationCard : Claim7 := { stood := { row := topAuthorizationRow, standIns := [], harness := (true, "341c2bf3886bbbb88cb89181f1ea5233ce60c1801d9a6d3e3690dec29ad4f5c6"), looks := true }, kinds := [], alts := [], laidByText := true, laidKinds := [.data, .data, .data, .data, .pinned], laidTests := true, laidLooks := .later }
def TopAuthorizationCardSaid : Prop := Claim7.holds Tryz.pinned (.plain (OpenSpec.ofChange topAuthorizationSpec)) topAuthorizationCard

/-- THE TIED CARD OF 'stillroomtop.TopJoin'. -/
def topJoinCard : Claim7 := { stood := { row := topJoinRow, standIns := [], harness := (true, "341c2bf3886bbbb88cb89181f1ea5233ce60c1801d9a6d3e3690dec29ad4f5c6"), looks := true }, kinds := [], alts := [], laidByText := true, laidKinds := [.data, .data, .data, .data, .pinned], laidTests := true, laidLooks := .later }
def TopJoinCardSaid : Prop := Claim7.holds Tryz.pinned (.plain (OpenSpec.ofChange topJoinSpec)) topJoinCard

/-- THE TIED CARD OF 'stillroomtop.TopReuse'. -/
def topReuseCard : Claim7 := { stood := { row := topReuseRow, standIns := [], harness := (true, "341c2bf3886bbbb88cb89181f1ea5233ce60c1801d9a6d3e3690dec29ad4f5c6"), looks := true }, kinds := [], alts := [], laidByText := true, laidKinds := [.data, .data, .data, .data, .pinned], laidTests := true, laidLooks := .later }
def TopReuseCardSaid : Prop := Claim7.holds Tryz.pinned (.plain (OpenSpec.ofChange topReuseSpec)) topReuseCard

/-- THE TIED CARD OF 'stillroomtop.TopKeys'. -/
def topKeysCard : Claim7 := { stood := { row := topKeysRow, standIns := [], harness := (true, "341c2bf3886bbbb88cb89181f1ea5233ce60c1801d9a6d3e3690dec29ad4f5c6"), looks := true }, kinds := [], alts := [], laidByText := true, laidKinds := [.data, .data, .data, .data, .pinned], laidTests := true, laidLooks := .later }
def TopKeysCardSaid : Prop := Claim7.holds Tryz.pinned (.plain (OpenSpec.ofChange topKeysSpec)) topKeysCard

/-- THE TIED CARD OF 'stillroomtop.TopStatus'. -/
def topStatusCard : Claim7 := { stood := { row := topStatusRow, standIns := [], harness := (true, "341c2bf3886bbbb88cb89181f1ea5233ce60c1801d9a6d3e3690dec29ad4f5c6"), looks := true }, kinds := [], alts := [], laidByText := true, laidKinds := [.data, .data, .data, .data, .pinned], laidTests := true, laidLooks := .later }
def TopStatusCardSaid : Prop := Claim7.holds Tryz.pinned (.plain (OpenSpec.ofChange topStatusSpec)) topStatusCard

/-- THE SECOND FORM's CARD OF 'stillroomtop.TopClose'. -/
def topCloseUptoCard : Claim7 := { stood := { row := topCloseUptoRow, standIns := [], harness := (true, "341c2bf3886bbbb88cb89181f1ea5233ce60c1801d9a6d3e3690dec29ad4f5c6"), looks := true }, kinds := [], alts := [], laidByText := true, laidKinds := [.data, .data, .data, .data, .pinned], laidTests := true, laidLooks := .later }
def TopCloseUptoCardSaid : Prop := Claim7.holds Tryz.pinned (.plain (OpenSpec.upto topCloseSpec)) topCloseUptoCard

/-- THE SECOND FORM's CARD OF 'stillroomtop.TopControl'. -/
def topControlUptoCard : Claim7 := { stood := { row := topControlUptoRow, standIns := [], harness := (true, "341c2bf3886bbbb88cb89181f1ea5233ce60c1801d9a6d3e3690dec29ad4f5c6"), looks := true }, kinds := [], alts := [], laidByText := true, laidKinds := [.data, .data, .data, .data, .pinned], laidTests := true, laidLooks := .later }
def TopControlUptoCardSaid : Prop := Claim7.holds Tryz.pinned (.plain (OpenSpec.upto topControlSpec)) topControlUptoCard

/-- THE SECOND FORM's CARD OF 'stillroomtop.TopAsked'. -/
def topAskedUptoCard : Claim7 := { stood := { row := topAskedUptoRow, standIns := [], harness := (true, "341c2bf3886bbbb88cb89181f1ea5233ce60c1801d9a6d3e3690dec29ad4f5c6"), looks := true }, kinds := [], alts := [], laidByText := true, laidKinds := [.data, .data, .data, .data, .pinned], laidTests := true, laidLooks := .later }
def TopAskedUptoCardSaid : Prop := Claim7.holds Tryz.pinned (.plain (OpenSpec.upto topAskedSpec)) topAskedUptoCard

/-- THE SECOND FORM's CARD OF 'stillroomtop.TopAuthorization'. -/
def topAuthorizationUptoCard : Claim7 := { stood := { row := topAuthorizationUptoRow, standIns := [], harness := (true, "341c2bf3886bbbb88cb89181f1ea5233ce60c1801d9a6d3e3690dec29ad4f5c6"), looks := true }, kinds := [], alts := [], laidByText := true, laidKinds := [.data, .data, .data, .data, .pinned], laidTests := true, laidLooks := .later }
def TopAuthorizationUptoCardSaid : Prop := Claim7.holds Tryz.pinned (.plain (OpenSpec.upto topAuthorizationSpec)) topAuthorizationUptoCard

/-- THE SECOND FORM's CARD OF 'stillroomtop.TopJoin'. -/
def topJoinUptoCard : Claim7 := { stood := { row := topJoinUptoRow, standIns := [], harness := (true, "341c2bf3886bbbb88cb89181f1ea5233ce60c1801d9a6d3e3690dec29ad4f5c6"), looks := true }, kinds := [], alts := [], laidByText := true, laidKinds := [.data, .data, .data, .data, .pinned], laidTests := true, laidLooks := .later }
def TopJoinUptoCardSaid : Prop := Claim7.holds Tryz.pinned (.plain (OpenSpec.upto topJoinSpec)) topJoinUptoCard

/-- THE SECOND FORM's CARD OF 'stillroomtop.TopReuse'. -/
def topReuseUptoCard : Claim7 := { stood := { row := topReuseUptoRow, standIns := [], harness := (true, "341c2bf3886bbbb88cb89181f1ea5233ce60c1801d9a6d3e3690dec29ad4f5c6"), looks := true }, kinds := [], alts := [], laidByText := true, laidKinds := [.data, .data, .data, .data, .pinned], laidTests := true, laidLooks := .later }
def TopReuseUptoCardSaid : Prop := Claim7.holds Tryz.pinned (.plain (OpenSpec.upto topReuseSpec)) topReuseUptoCard

/-- THE SECOND FORM's CARD OF 'stillroomtop.TopKeys'. -/
def topKeysUptoCard : Claim7 := { stood := { row := topKeysUptoRow, standIns := [], harness := (true, "341c2bf3886bbbb88cb89181f1ea5233ce60c1801d9a6d3e3690dec29ad4f5c6"), looks := true }, kinds := [], alts := [], laidByText := true, laidKinds := [.data, .data, .data, .data, .pinned], laidTests := true, laidLooks := .later }
def TopKeysUptoCardSaid : Prop := Claim7.holds Tryz.pinned (.plain (OpenSpec.upto topKeysSpec)) topKeysUptoCard

/-- THE SECOND FORM's CARD OF 'stillroomtop.TopStatus'. -/
def topStatusUptoCard : Claim7 := { stood := { row := topStatusUptoRow, standIns := [], harness := (true, "341c2bf3886bbbb88cb89181f1ea5233ce60c1801d9a6d3e3690dec29ad4f5c6"), looks := true }, kinds := [], alts := [], laidByText := true, laidKinds := [.data, .data, .data, .data, .pinned], laidTests := true, laidLooks := .later }
def TopStatusUptoCardSaid : Prop := Claim7.holds Tryz.pinned (.plain (OpenSpec.upto topStatusSpec)) topStatusUptoCard
end Rows
end Go.Proofs.YtnogfiilcklegaaGreatDoor
