/-
  DERIVED. GIVEN WITH THE SEED: THE CARDS: each row of YthjkpfnkahfdgaaDoorRows.lean that lists a variable, with what it lists TIED to the program's text (the seventh form; the later family's looks); each row that meets fmt, with fmt's text TOLD by the authors' own Lean function (tested against real Go, not proved from fmt's source: count such statements apart). THE CARD IS WHAT COUNTS. Prove the row's statement (the work); the ties are given (YthjkpfnkahfdgaaDoorTie.lean); close each card by the builder's one call (the guide's Derived/Test/ToyasCard.lean, 'card_holds'). Laid BY PROGRAM, IN A SANDBOX (cutbox-door.mjs). By AI agents, Wed Nov 11 2026. No macro, syntax, notation, axiom, sorry.
-/
import Derived.Test.YthjkpfnkahfdgaaDoorRows
import GoSem.ClaimSeven
namespace Go.Proofs.YthjkpfnkahfdgaaDoor
namespace Rows

/-- THE TIED CARD OF 'stillroomlaw24.AnswerRead'. -/
def answerReadCard : Claim7 := { stood := { row := answerReadRow, standIns := [], harness := (true, "a8188fd5f25aaacbb5eee2bcd7a9475bceb2aadd6fec2315eb3b072c46d425aa"), looks := false }, kinds := [], alts := [], laidByText := true, laidKinds := [.data, .data, .data, .data, .pinned], laidTests := true, laidLooks := .later }
def AnswerReadCardSaid : Prop := Claim7.holds Tryd.pinned (.plain (OpenSpec.ofChange answerReadSpec)) answerReadCard

/-- THE SECOND FORM's CARD OF 'stillroomlaw24.AnswerRead'. -/
def answerReadUptoCard : Claim7 := { stood := { row := answerReadUptoRow, standIns := [], harness := (true, "a8188fd5f25aaacbb5eee2bcd7a9475bceb2aadd6fec2315eb3b072c46d425aa"), looks := false }, kinds := [], alts := [], laidByText := true, laidKinds := [.data, .data, .data, .data, .pinned], laidTests := true, laidLooks := .later }
def AnswerReadUptoCardSaid : Prop := Claim7.holds Tryd.pinned (.plain (OpenSpec.upto answerReadSpec)) answerReadUptoCard
end Rows
end Go.Proofs.YthjkpfnkahfdgaaDoor
