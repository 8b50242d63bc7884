/-
  DERIVED. GIVEN WITH THE SEED: THE CARDS: each row of YtjcbohpemfmpiaaDoorRows.lean that lists a variable, with what it lists TIED to the program's text (the seventh form; the later family's looks); each row that meets fmt, with fmt's text TOLD by the authors' own Lean function (tested against real Go, not proved from fmt's source: count such statements apart). THE CARD IS WHAT COUNTS. Prove the row's statement (the work); the ties are given (YtjcbohpemfmpiaaDoorTie.lean); close each card by the builder's one call (the guide's Derived/Test/ToyasCard.lean, 'card_holds'). Laid BY PROGRAM, IN A SANDBOX (cutbox-door.mjs). By AI agents, Wed Nov 11 2026. No macro, syntax, notation, axiom, sorry.
-/
import Derived.Test.YtjcbohpemfmpiaaDoorRows
import GoSem.ClaimSeven
namespace Go.Proofs.YtjcbohpemfmpiaaDoor
namespace Rows

/-- THE TIED CARD OF 'stillroomlaw16.HeadLong'. -/
def headLongCard : Claim7 := { stood := { row := headLongRow, standIns := [], harness := (true, "a5f9d0c3cc4da590cad78caafc688c5e26411a7647cb7cf98a0fe7ca3c8fffb5"), looks := false }, kinds := [], alts := [], laidByText := true, laidKinds := [.data, .pinned], laidTests := true, laidLooks := .later }
def HeadLongCardSaid : Prop := Claim7.holds Tryd.pinned (.plain (OpenSpec.ofChange headLongSpec)) headLongCard

/-- THE TIED CARD OF 'stillroomlaw16.HeadGet'. -/
def headGetCard : Claim7 := { stood := { row := headGetRow, standIns := [], harness := (true, "a5f9d0c3cc4da590cad78caafc688c5e26411a7647cb7cf98a0fe7ca3c8fffb5"), looks := false }, kinds := [], alts := [], laidByText := true, laidKinds := [.data, .pinned], laidTests := true, laidLooks := .later }
def HeadGetCardSaid : Prop := Claim7.holds Tryd.pinned (.plain (OpenSpec.ofChange headGetSpec)) headGetCard

/-- THE TIED CARD OF 'stillroomlaw17.BodyLong'. -/
def bodyLongCard : Claim7 := { stood := { row := bodyLongRow, standIns := [], harness := (true, "a5f9d0c3cc4da590cad78caafc688c5e26411a7647cb7cf98a0fe7ca3c8fffb5"), looks := false }, kinds := [], alts := [], laidByText := true, laidKinds := [.data, .data, .data], laidTests := true, laidLooks := .later }
def BodyLongCardSaid : Prop := Claim7.holds Tryd.pinned (.plain (OpenSpec.ofChange bodyLongSpec)) bodyLongCard

/-- THE SECOND FORM's CARD OF 'stillroomlaw16.HeadLong'. -/
def headLongUptoCard : Claim7 := { stood := { row := headLongUptoRow, standIns := [], harness := (true, "a5f9d0c3cc4da590cad78caafc688c5e26411a7647cb7cf98a0fe7ca3c8fffb5"), looks := false }, kinds := [], alts := [], laidByText := true, laidKinds := [.data, .pinned], laidTests := true, laidLooks := .later }
def HeadLongUptoCardSaid : Prop := Claim7.holds Tryd.pinned (.plain (OpenSpec.upto headLongSpec)) headLongUptoCard

/-- THE SECOND FORM's CARD OF 'stillroomlaw16.HeadGet'. -/
def headGetUptoCard : Claim7 := { stood := { row := headGetUptoRow, standIns := [], harness := (true, "a5f9d0c3cc4da590cad78caafc688c5e26411a7647cb7cf98a0fe7ca3c8fffb5"), looks := false }, kinds := [], alts := [], laidByText := true, laidKinds := [.data, .pinned], laidTests := true, laidLooks := .later }
def HeadGetUptoCardSaid : Prop := Claim7.holds Tryd.pinned (.plain (OpenSpec.upto headGetSpec)) headGetUptoCard

/-- THE SECOND FORM's CARD OF 'stillroomlaw17.BodyLong'. -/
def bodyLongUptoCard : Claim7 := { stood := { row := bodyLongUptoRow, standIns := [], harness := (true, "a5f9d0c3cc4da590cad78caafc688c5e26411a7647cb7cf98a0fe7ca3c8fffb5"), looks := false }, kinds := [], alts := [], laidByText := true, laidKinds := [.data, .data, .data], laidTests := true, laidLooks := .later }
def BodyLongUptoCardSaid : Prop := Claim7.holds Tryd.pinned (.plain (OpenSpec.upto bodyLongSpec)) bodyLongUptoCard
end Rows
end Go.Proofs.YtjcbohpemfmpiaaDoor
