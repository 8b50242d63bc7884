/-
  DERIVED. GIVEN WITH THE SEED: THE CARDS: each row of YtbjghkngijepbaaGreatDoorRows.lean that lists a variable, with what it lists TIED to the program's text (the seventh form; the later family's looks); each row that meets fmt, with fmt's text TOLD by the authors' own Lean function (tested against real Go, not proved from fmt's source: count such statements apart). THE CARD IS WHAT COUNTS. Prove the row's statement (the work); the ties are given (YtbjghkngijepbaaGreatDoorTie.lean); close each card by the builder's one call (the guide's Derived/Test/ToyasCard.lean, 'card_holds'). Laid BY PROGRAM, IN A SANDBOX (cutbox-door.mjs). By AI agents, Wed Nov 11 2026. No macro, syntax, notation, axiom, sorry.
-/
import Derived.Test.YtbjghkngijepbaaGreatDoorRows
import GoSem.ClaimSeven
namespace Go.Proofs.YtbjghkngijepbaaGreatDoor
namespace Rows

/-- THE TIED CARD OF 'stillroomlaw26.SessionBad'. -/
def sessionBadCard : Claim7 := { stood := { row := sessionBadRow, standIns := [], harness := (true, "a13d9ef90fe850f3668c49adbf38a9a88b64fa55d38ba7c520a1052677f400c8"), looks := true }, kinds := [], alts := [], laidByText := true, laidKinds := [.data, .data, .data, .pinned, .data], laidTests := true, laidLooks := .later }
def SessionBadCardSaid : Prop := Claim7.holds Tryz.pinned (.plain (OpenSpec.ofChange sessionBadSpec)) sessionBadCard

/-- THE TIED CARD OF 'stillroomlaw28.ScriptMany'. -/
def scriptManyCard : Claim7 := { stood := { row := scriptManyRow, standIns := [], harness := (true, "a13d9ef90fe850f3668c49adbf38a9a88b64fa55d38ba7c520a1052677f400c8"), looks := true }, kinds := [], alts := [], laidByText := true, laidKinds := [.data, .data, .data, .pinned, .data], laidTests := true, laidLooks := .later }
def ScriptManyCardSaid : Prop := Claim7.holds Tryz.pinned (.plain (OpenSpec.ofChange scriptManySpec)) scriptManyCard

/-- THE TIED CARD OF 'stillroomlaw28.ScriptClosed'. -/
def scriptClosedCard : Claim7 := { stood := { row := scriptClosedRow, standIns := [], harness := (true, "a13d9ef90fe850f3668c49adbf38a9a88b64fa55d38ba7c520a1052677f400c8"), looks := true }, kinds := [], alts := [], laidByText := true, laidKinds := [.data, .data, .data, .pinned, .data], laidTests := true, laidLooks := .later }
def ScriptClosedCardSaid : Prop := Claim7.holds Tryz.pinned (.plain (OpenSpec.ofChange scriptClosedSpec)) scriptClosedCard

/-- THE SECOND FORM's CARD OF 'stillroomlaw26.SessionBad'. -/
def sessionBadUptoCard : Claim7 := { stood := { row := sessionBadUptoRow, standIns := [], harness := (true, "a13d9ef90fe850f3668c49adbf38a9a88b64fa55d38ba7c520a1052677f400c8"), looks := true }, kinds := [], alts := [], laidByText := true, laidKinds := [.data, .data, .data, .pinned, .data], laidTests := true, laidLooks := .later }
def SessionBadUptoCardSaid : Prop := Claim7.holds Tryz.pinned (.plain (OpenSpec.upto sessionBadSpec)) sessionBadUptoCard

/-- THE SECOND FORM's CARD OF 'stillroomlaw28.ScriptMany'. -/
def scriptManyUptoCard : Claim7 := { stood := { row := scriptManyUptoRow, standIns := [], harness := (true, "a13d9ef90fe850f3668c49adbf38a9a88b64fa55d38ba7c520a1052677f400c8"), looks := true }, kinds := [], alts := [], laidByText := true, laidKinds := [.data, .data, .data, .pinned, .data], laidTests := true, laidLooks := .later }
def ScriptManyUptoCardSaid : Prop := Claim7.holds Tryz.pinned (.plain (OpenSpec.upto scriptManySpec)) scriptManyUptoCard

/-- THE SECOND FORM's CARD OF 'stillroomlaw28.ScriptClosed'. -/
def scriptClosedUptoCard : Claim7 := { stood := { row := scriptClosedUptoRow, standIns := [], harness := (true, "a13d9ef90fe850f3668c49adbf38a9a88b64fa55d38ba7c520a1052677f400c8"), looks := true }, kinds := [], alts := [], laidByText := true, laidKinds := [.data, .data, .data, .pinned, .data], laidTests := true, laidLooks := .later }
def ScriptClosedUptoCardSaid : Prop := Claim7.holds Tryz.pinned (.plain (OpenSpec.upto scriptClosedSpec)) scriptClosedUptoCard
end Rows
end Go.Proofs.YtbjghkngijepbaaGreatDoor
