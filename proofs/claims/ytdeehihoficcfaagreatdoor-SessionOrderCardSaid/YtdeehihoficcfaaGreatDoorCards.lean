/-
  DERIVED. GIVEN WITH THE SEED: THE CARDS: each row of YtdeehihoficcfaaGreatDoorRows.lean that lists a variable, with what it lists TIED to the program's text (the seventh form; the later family's looks); each row that meets fmt, with fmt's text TOLD by the authors' own Lean function (tested against real Go, not proved from fmt's source: count such statements apart). THE CARD IS WHAT COUNTS. Prove the row's statement (the work); the ties are given (YtdeehihoficcfaaGreatDoorTie.lean); close each card by the builder's one call (the guide's Derived/Test/ToyasCard.lean, 'card_holds'). Laid BY PROGRAM, IN A SANDBOX (cutbox-door.mjs). By AI agents, Wed Nov 11 2026. No macro, syntax, notation, axiom, sorry.
-/
import Derived.Test.YtdeehihoficcfaaGreatDoorRows
import GoSem.ClaimSeven
namespace Go.Proofs.YtdeehihoficcfaaGreatDoor
namespace Rows

/-- THE TIED CARD OF 'stillroomlaw14.StoreNone'. -/
def storeNoneCard : Claim7 := { stood := { row := storeNoneRow, standIns := [], harness := (true, "76485b8b87e631a66afbeed664b5bcb1663cb105d7558dc0cd114e2b3ec26de0"), looks := true }, kinds := [], alts := [], laidByText := true, laidKinds := [.data, .data, .data], laidTests := true, laidLooks := .later }
def StoreNoneCardSaid : Prop := Claim7.holds Tryz.pinned (.plain (OpenSpec.ofChange storeNoneSpec)) storeNoneCard

/-- THE TIED CARD OF 'stillroomlaw25.FillNone'. -/
def fillNoneCard : Claim7 := { stood := { row := fillNoneRow, standIns := [], harness := (true, "76485b8b87e631a66afbeed664b5bcb1663cb105d7558dc0cd114e2b3ec26de0"), looks := true }, kinds := [], alts := [], laidByText := true, laidKinds := [.data, .data, .data], laidTests := true, laidLooks := .later }
def FillNoneCardSaid : Prop := Claim7.holds Tryz.pinned (.plain (OpenSpec.ofChange fillNoneSpec)) fillNoneCard

/-- THE TIED CARD OF 'stillroomlaw27.ProxyNone'. -/
def proxyNoneCard : Claim7 := { stood := { row := proxyNoneRow, standIns := [], harness := (true, "76485b8b87e631a66afbeed664b5bcb1663cb105d7558dc0cd114e2b3ec26de0"), looks := true }, kinds := [], alts := [], laidByText := true, laidKinds := [.data, .data, .data, .data, .pinned], laidTests := true, laidLooks := .later }
def ProxyNoneCardSaid : Prop := Claim7.holds Tryz.pinned (.plain (OpenSpec.ofChange proxyNoneSpec)) proxyNoneCard

/-- THE TIED CARD OF 'stillroomlaw26.SessionNone'. -/
def sessionNoneCard : Claim7 := { stood := { row := sessionNoneRow, standIns := [], harness := (true, "76485b8b87e631a66afbeed664b5bcb1663cb105d7558dc0cd114e2b3ec26de0"), looks := true }, kinds := [], alts := [], laidByText := true, laidKinds := [.data, .data, .data, .data, .pinned], laidTests := true, laidLooks := .later }
def SessionNoneCardSaid : Prop := Claim7.holds Tryz.pinned (.plain (OpenSpec.ofChange sessionNoneSpec)) sessionNoneCard

/-- THE TIED CARD OF 'stillroomlaw26.SessionOrder'. -/
def sessionOrderCard : Claim7 := { stood := { row := sessionOrderRow, standIns := [], harness := (true, "76485b8b87e631a66afbeed664b5bcb1663cb105d7558dc0cd114e2b3ec26de0"), looks := true }, kinds := [], alts := [], laidByText := true, laidKinds := [.data, .data, .data, .data, .pinned], laidTests := true, laidLooks := .later }
def SessionOrderCardSaid : Prop := Claim7.holds Tryz.pinned (.plain (OpenSpec.ofChange sessionOrderSpec)) sessionOrderCard

/-- THE TIED CARD OF 'stillroomlaw14.StorePurge'. -/
def storePurgeCard : Claim7 := { stood := { row := storePurgeRow, standIns := [], harness := (true, "76485b8b87e631a66afbeed664b5bcb1663cb105d7558dc0cd114e2b3ec26de0"), looks := true }, kinds := [], alts := [], laidByText := true, laidKinds := [.data, .data, .data], laidTests := true, laidLooks := .later }
def StorePurgeCardSaid : Prop := Claim7.holds Tryz.pinned (.plain (OpenSpec.ofChange storePurgeSpec)) storePurgeCard

/-- THE TIED CARD OF 'stillroomlaw14.StoreEvict'. -/
def storeEvictCard : Claim7 := { stood := { row := storeEvictRow, standIns := [], harness := (true, "76485b8b87e631a66afbeed664b5bcb1663cb105d7558dc0cd114e2b3ec26de0"), looks := true }, kinds := [], alts := [], laidByText := true, laidKinds := [.data, .data, .data], laidTests := true, laidLooks := .later }
def StoreEvictCardSaid : Prop := Claim7.holds Tryz.pinned (.plain (OpenSpec.ofChange storeEvictSpec)) storeEvictCard

/-- THE SECOND FORM's CARD OF 'stillroomlaw14.StoreNone'. -/
def storeNoneUptoCard : Claim7 := { stood := { row := storeNoneUptoRow, standIns := [], harness := (true, "76485b8b87e631a66afbeed664b5bcb1663cb105d7558dc0cd114e2b3ec26de0"), looks := true }, kinds := [], alts := [], laidByText := true, laidKinds := [.data, .data, .data], laidTests := true, laidLooks := .later }
def StoreNoneUptoCardSaid : Prop := Claim7.holds Tryz.pinned (.plain (OpenSpec.upto storeNoneSpec)) storeNoneUptoCard

/-- THE SECOND FORM's CARD OF 'stillroomlaw25.FillNone'. -/
def fillNoneUptoCard : Claim7 := { stood := { row := fillNoneUptoRow, standIns := [], harness := (true, "76485b8b87e631a66afbeed664b5bcb1663cb105d7558dc0cd114e2b3ec26de0"), looks := true }, kinds := [], alts := [], laidByText := true, laidKinds := [.data, .data, .data], laidTests := true, laidLooks := .later }
def FillNoneUptoCardSaid : Prop := Claim7.holds Tryz.pinned (.plain (OpenSpec.upto fillNoneSpec)) fillNoneUptoCard

/-- THE SECOND FORM's CARD OF 'stillroomlaw27.ProxyNone'. -/
def proxyNoneUptoCard : Claim7 := { stood := { row := proxyNoneUptoRow, standIns := [], harness := (true, "76485b8b87e631a66afbeed664b5bcb1663cb105d7558dc0cd114e2b3ec26de0"), looks := true }, kinds := [], alts := [], laidByText := true, laidKinds := [.data, .data, .data, .data, .pinned], laidTests := true, laidLooks := .later }
def ProxyNoneUptoCardSaid : Prop := Claim7.holds Tryz.pinned (.plain (OpenSpec.upto proxyNoneSpec)) proxyNoneUptoCard

/-- THE SECOND FORM's CARD OF 'stillroomlaw26.SessionNone'. -/
def sessionNoneUptoCard : Claim7 := { stood := { row := sessionNoneUptoRow, standIns := [], harness := (true, "76485b8b87e631a66afbeed664b5bcb1663cb105d7558dc0cd114e2b3ec26de0"), looks := true }, kinds := [], alts := [], laidByText := true, laidKinds := [.data, .data, .data, .data, .pinned], laidTests := true, laidLooks := .later }
def SessionNoneUptoCardSaid : Prop := Claim7.holds Tryz.pinned (.plain (OpenSpec.upto sessionNoneSpec)) sessionNoneUptoCard

/-- THE SECOND FORM's CARD OF 'stillroomlaw26.SessionOrder'. -/
def sessionOrderUptoCard : Claim7 := { stood := { row := sessionOrderUptoRow, standIns := [], harness := (true, "76485b8b87e631a66afbeed664b5bcb1663cb105d7558dc0cd114e2b3ec26de0"), looks := true }, kinds := [], alts := [], laidByText := true, laidKinds := [.data, .data, .data, .data, .pinned], laidTests := true, laidLooks := .later }
def SessionOrderUptoCardSaid : Prop := Claim7.holds Tryz.pinned (.plain (OpenSpec.upto sessionOrderSpec)) sessionOrderUptoCard

/-- THE SECOND FORM's CARD OF 'stillroomlaw14.StorePurge'. -/
def storePurgeUptoCard : Claim7 := { stood := { row := storePurgeUptoRow, standIns := [], harness := (true, "76485b8b87e631a66afbeed664b5bcb1663cb105d7558dc0cd114e2b3ec26de0"), looks := true }, kinds := [], alts := [], laidByText := true, laidKinds := [.data, .data, .data], laidTests := true, laidLooks := .later }
def StorePurgeUptoCardSaid : Prop := Claim7.holds Tryz.pinned (.plain (OpenSpec.upto storePurgeSpec)) storePurgeUptoCard

/-- THE SECOND FORM's CARD OF 'stillroomlaw14.StoreEvict'. -/
def storeEvictUptoCard : Claim7 := { stood := { row := storeEvictUptoRow, standIns := [], harness := (true, "76485b8b87e631a66afbeed664b5bcb1663cb105d7558dc0cd114e2b3ec26de0"), looks := true }, kinds := [], alts := [], laidByText := true, laidKinds := [.data, .data, .data], laidTests := true, laidLooks := .later }
def StoreEvictUptoCardSaid : Prop := Claim7.holds Tryz.pinned (.plain (OpenSpec.upto storeEvictSpec)) storeEvictUptoCard
end Rows
end Go.Proofs.YtdeehihoficcfaaGreatDoor
