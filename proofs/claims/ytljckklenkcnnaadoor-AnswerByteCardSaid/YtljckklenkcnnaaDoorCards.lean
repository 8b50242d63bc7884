/-
  DERIVED. GIVEN WITH THE SEED: THE CARDS: each row of YtljckklenkcnnaaDoorRows.lean that lists a variable, with what it lists TIED to the program's text (the seventh form; the later family's looks); each row that meets fmt, with fmt's text TOLD by the authors' own Lean function (tested against real Go, not proved from fmt's source: count such statements apart). THE CARD IS WHAT COUNTS. Prove the row's statement (the work); the ties are given (YtljckklenkcnnaaDoorTie.lean); close each card by the builder's one call (the guide's Derived/Test/ToyasCard.lean, 'card_holds'). Laid BY PROGRAM, IN A SANDBOX (cutbox-door.mjs). By AI agents, Wed Nov 11 2026. No macro, syntax, notation, axiom, sorry.
-/
import Derived.Test.YtljckklenkcnnaaDoorRows
import GoSem.ClaimSeven
namespace Go.Proofs.YtljckklenkcnnaaDoor
namespace Rows

/-- THE TIED CARD OF 'stillroomlaw16.HeadGet'. -/
def headGetCard : Claim7 := { stood := { row := headGetRow, standIns := [], harness := (true, "18738047be339e63c56b080c93c55ca30dbb083d0913ad9f26b6cca50a02a44a"), looks := false }, kinds := [], alts := [], laidByText := true, laidKinds := [.data, .pinned], laidTests := true, laidLooks := .later }
def HeadGetCardSaid : Prop := Claim7.holds Tryd.pinned (.plain (OpenSpec.ofChange headGetSpec)) headGetCard

/-- THE TIED CARD OF 'stillroomlaw24.AnswerByte'. -/
def answerByteCard : Claim7 := { stood := { row := answerByteRow, standIns := [], harness := (true, "18738047be339e63c56b080c93c55ca30dbb083d0913ad9f26b6cca50a02a44a"), looks := false }, kinds := [], alts := [], laidByText := true, laidKinds := [.data, .data, .data, .data, .pinned], laidTests := true, laidLooks := .later }
def AnswerByteCardSaid : Prop := Claim7.holds Tryd.pinned (.plain (OpenSpec.ofChange answerByteSpec)) answerByteCard

/-- THE TIED CARD OF 'stillroomlaw24.AnswerCut'. -/
def answerCutCard : Claim7 := { stood := { row := answerCutRow, standIns := [], harness := (true, "18738047be339e63c56b080c93c55ca30dbb083d0913ad9f26b6cca50a02a44a"), looks := false }, kinds := [], alts := [], laidByText := true, laidKinds := [.data, .data, .data, .data, .pinned], laidTests := true, laidLooks := .later }
def AnswerCutCardSaid : Prop := Claim7.holds Tryd.pinned (.plain (OpenSpec.ofChange answerCutSpec)) answerCutCard

/-- THE SECOND FORM's CARD OF 'stillroomlaw16.HeadGet'. -/
def headGetUptoCard : Claim7 := { stood := { row := headGetUptoRow, standIns := [], harness := (true, "18738047be339e63c56b080c93c55ca30dbb083d0913ad9f26b6cca50a02a44a"), looks := false }, kinds := [], alts := [], laidByText := true, laidKinds := [.data, .pinned], laidTests := true, laidLooks := .later }
def HeadGetUptoCardSaid : Prop := Claim7.holds Tryd.pinned (.plain (OpenSpec.upto headGetSpec)) headGetUptoCard

/-- THE SECOND FORM's CARD OF 'stillroomlaw24.AnswerByte'. -/
def answerByteUptoCard : Claim7 := { stood := { row := answerByteUptoRow, standIns := [], harness := (true, "18738047be339e63c56b080c93c55ca30dbb083d0913ad9f26b6cca50a02a44a"), looks := false }, kinds := [], alts := [], laidByText := true, laidKinds := [.data, .data, .data, .data, .pinned], laidTests := true, laidLooks := .later }
def AnswerByteUptoCardSaid : Prop := Claim7.holds Tryd.pinned (.plain (OpenSpec.upto answerByteSpec)) answerByteUptoCard

/-- THE SECOND FORM's CARD OF 'stillroomlaw24.AnswerCut'. -/
def answerCutUptoCard : Claim7 := { stood := { row := answerCutUptoRow, standIns := [], harness := (true, "18738047be339e63c56b080c93c55ca30dbb083d0913ad9f26b6cca50a02a44a"), looks := false }, kinds := [], alts := [], laidByText := true, laidKinds := [.data, .data, .data, .data, .pinned], laidTests := true, laidLooks := .later }
def AnswerCutUptoCardSaid : Prop := Claim7.holds Tryd.pinned (.plain (OpenSpec.upto answerCutSpec)) answerCutUptoCard
end Rows
end Go.Proofs.YtljckklenkcnnaaDoor
