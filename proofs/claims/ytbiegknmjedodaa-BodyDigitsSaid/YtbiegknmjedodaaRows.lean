/-
  No cell of these rows narrows 'for every input' (looked for: loops, veiled, ifaces, maps, wideKeys, modest, calm, conditions, laid).
  DERIVED. THE GIVEN ROWS OF THIS SEAT. 9 by the template 'for every input the law returns true; each argument reads behind the call as it read before'; 0 by the template 'total and deterministic' (their statements: YtbiegknmjedodaaTotals.lean).
  GIVEN WITH THE SEED: the statements are not yours to turn. If you find one false, say at which input.
  Laid BY PROGRAM, IN A SANDBOX (cutbox-rows.mjs): the forced cells as the released guide's own fill.sh prints them over the translation a1bf8abcdee8436e… (all of the seat's roots in one cut). By AI agents, Wed Nov 11 2026. No macro, syntax, notation, axiom, sorry.
-/
import Derived.Test.YtbiegknmjedodaaChecked
import GoSem.Claim
import GoSem.ClaimJoined
import GoSem.ClaimMapViews
import Derived.JoinedTies
import Derived.KernelRfl
namespace Go.Proofs.Ytbiegknmjedodaa
/- THE CELL 'sum', in the pinned program and in every row, IS THE sha256 OF THE DUMP (.gsa) THAT YtbiegknmjedodaaProg.lean LOADS. Nothing in Lean hashes anything: it is a label: what it is worth is what the hold of that sum in a sandbox is worth. -/
noncomputable def Try.pinned : Pinned := { name := "ytbiegknmjedodaa", sum := "a1bf8abcdee8436ecff23e7814b9f9c646ed25c9613340106c1394e054e58937", checked := Try.checked }
namespace Rows
def none {H : Type} : Left H := { results := [], args := [] }

/-- 'stillroomlaw13.ChooseTurned': WHATEVER THE INPUT: true; the input reads as it did. -/
def chooseTurnedSpec : ChangeSpec := { name := "chooseTurned", fn := fun _ => fun
  | [d1, d2] => { results := [.lit (.bool true)], args := [d1, d2] }
  | _ => none }
def chooseTurnedRow : OpenClaim := { program := "ytbiegknmjedodaa", sum := "a1bf8abcdee8436ecff23e7814b9f9c646ed25c9613340106c1394e054e58937", func := "stillroom/stillroomlaw13.ChooseTurned", spec := "chooseTurned", plainKeys := false, apart := false }
def ChooseTurnedSaid : Prop := chooseTurnedRow.holds Try.pinned (OpenSpec.ofChange chooseTurnedSpec)

/-- ITS FALSE NEIGHBOUR: 'it returns false'. Refute it at one input. -/
def chooseTurnedWrong : ChangeSpec := { name := "chooseTurned", fn := fun _ => fun
  | [d1, d2] => { results := [.lit (.bool false)], args := [d1, d2] }
  | _ => none }
def ChooseTurnedWrongFalsely : Prop := chooseTurnedRow.holds Try.pinned (OpenSpec.ofChange chooseTurnedWrong)

/-- 'stillroomlaw17.BodyDigits': WHATEVER THE INPUT: true; the input reads as it did. -/
def bodyDigitsSpec : ChangeSpec := { name := "bodyDigits", fn := fun _ => fun
  | [d1, d2] => { results := [.lit (.bool true)], args := [d1, d2] }
  | _ => none }
def bodyDigitsRow : OpenClaim := { program := "ytbiegknmjedodaa", sum := "a1bf8abcdee8436ecff23e7814b9f9c646ed25c9613340106c1394e054e58937", func := "stillroom/stillroomlaw17.BodyDigits", spec := "bodyDigits", plainKeys := false, apart := false }
def BodyDigitsSaid : Prop := bodyDigitsRow.holds Try.pinned (OpenSpec.ofChange bodyDigitsSpec)

/-- ITS FALSE NEIGHBOUR: 'it returns false'. Refute it at one input. -/
def bodyDigitsWrong : ChangeSpec := { name := "bodyDigits", fn := fun _ => fun
  | [d1, d2] => { results := [.lit (.bool false)], args := [d1, d2] }
  | _ => none }
def BodyDigitsWrongFalsely : Prop := bodyDigitsRow.holds Try.pinned (OpenSpec.ofChange bodyDigitsWrong)

/-- 'stillroomlaw23.StorableLife': WHATEVER THE INPUT: true; the input reads as it did. -/
def storableLifeSpec : ChangeSpec := { name := "storableLife", fn := fun _ => fun
  | [d1, d2] => { results := [.lit (.bool true)], args := [d1, d2] }
  | _ => none }
def storableLifeRow : OpenClaim := { program := "ytbiegknmjedodaa", sum := "a1bf8abcdee8436ecff23e7814b9f9c646ed25c9613340106c1394e054e58937", func := "stillroom/stillroomlaw23.StorableLife", spec := "storableLife", inPlace := ["internal/bytealg.IndexByteString", "internal/bytealg.IndexString"], unfollowed := true, recurses := true, named := ["internal/bytealg.MaxLen"], plainKeys := false, apart := false }
def StorableLifeSaid : Prop := storableLifeRow.holds Try.pinned (OpenSpec.ofChange storableLifeSpec)

/-- ITS FALSE NEIGHBOUR: 'it returns false'. Refute it at one input. -/
def storableLifeWrong : ChangeSpec := { name := "storableLife", fn := fun _ => fun
  | [d1, d2] => { results := [.lit (.bool false)], args := [d1, d2] }
  | _ => none }
def StorableLifeWrongFalsely : Prop := storableLifeRow.holds Try.pinned (OpenSpec.ofChange storableLifeWrong)

/-- 'stillroomlaw23.StorableStatus': WHATEVER THE INPUT: true; the input reads as it did. -/
def storableStatusSpec : ChangeSpec := { name := "storableStatus", fn := fun _ => fun
  | [d1, d2] => { results := [.lit (.bool true)], args := [d1, d2] }
  | _ => none }
def storableStatusRow : OpenClaim := { program := "ytbiegknmjedodaa", sum := "a1bf8abcdee8436ecff23e7814b9f9c646ed25c9613340106c1394e054e58937", func := "stillroom/stillroomlaw23.StorableStatus", spec := "storableStatus", inPlace := ["internal/bytealg.IndexByteString", "internal/bytealg.IndexString"], unfollowed := true, recurses := true, named := ["internal/bytealg.MaxLen"], plainKeys := false, apart := false }
def StorableStatusSaid : Prop := storableStatusRow.holds Try.pinned (OpenSpec.ofChange storableStatusSpec)

/-- ITS FALSE NEIGHBOUR: 'it returns false'. Refute it at one input. -/
def storableStatusWrong : ChangeSpec := { name := "storableStatus", fn := fun _ => fun
  | [d1, d2] => { results := [.lit (.bool false)], args := [d1, d2] }
  | _ => none }
def StorableStatusWrongFalsely : Prop := storableStatusRow.holds Try.pinned (OpenSpec.ofChange storableStatusWrong)

/-- 'stillroomlaw12.RecentAll': WHATEVER THE INPUT: true; the input reads as it did. -/
def recentAllSpec : ChangeSpec := { name := "recentAll", fn := fun _ => fun
  | [d] => { results := [.lit (.bool true)], args := [d] }
  | _ => none }
def recentAllRow : OpenClaim := { program := "ytbiegknmjedodaa", sum := "a1bf8abcdee8436ecff23e7814b9f9c646ed25c9613340106c1394e054e58937", func := "stillroom/stillroomlaw12.RecentAll", spec := "recentAll", unfollowed := true, recurses := true, plainKeys := false, apart := false }
def RecentAllSaid : Prop := recentAllRow.holds Try.pinned (OpenSpec.ofChange recentAllSpec)

/-- ITS FALSE NEIGHBOUR: 'it returns false'. Refute it at one input. -/
def recentAllWrong : ChangeSpec := { name := "recentAll", fn := fun _ => fun
  | [d] => { results := [.lit (.bool false)], args := [d] }
  | _ => none }
def RecentAllWrongFalsely : Prop := recentAllRow.holds Try.pinned (OpenSpec.ofChange recentAllWrong)

/-- 'stillroomlaw12.RecentNone': WHATEVER THE INPUT: true; the input reads as it did. -/
def recentNoneSpec : ChangeSpec := { name := "recentNone", fn := fun _ => fun
  | [] => { results := [.lit (.bool true)], args := [] }
  | _ => none }
def recentNoneRow : OpenClaim := { program := "ytbiegknmjedodaa", sum := "a1bf8abcdee8436ecff23e7814b9f9c646ed25c9613340106c1394e054e58937", func := "stillroom/stillroomlaw12.RecentNone", spec := "recentNone", unfollowed := true, recurses := true, plainKeys := false, apart := false }
def RecentNoneSaid : Prop := recentNoneRow.holds Try.pinned (OpenSpec.ofChange recentNoneSpec)

/-- ITS FALSE NEIGHBOUR: 'it returns false'. Refute it at one input. -/
def recentNoneWrong : ChangeSpec := { name := "recentNone", fn := fun _ => fun
  | [] => { results := [.lit (.bool false)], args := [] }
  | _ => none }
def RecentNoneWrongFalsely : Prop := recentNoneRow.holds Try.pinned (OpenSpec.ofChange recentNoneWrong)

/-- 'stillroomlaw12.RecentTurn': WHATEVER THE INPUT: true; the input reads as it did. -/
def recentTurnSpec : ChangeSpec := { name := "recentTurn", fn := fun _ => fun
  | [d1, d2] => { results := [.lit (.bool true)], args := [d1, d2] }
  | _ => none }
def recentTurnRow : OpenClaim := { program := "ytbiegknmjedodaa", sum := "a1bf8abcdee8436ecff23e7814b9f9c646ed25c9613340106c1394e054e58937", func := "stillroom/stillroomlaw12.RecentTurn", spec := "recentTurn", unfollowed := true, recurses := true, plainKeys := false, apart := false }
def RecentTurnSaid : Prop := recentTurnRow.holds Try.pinned (OpenSpec.ofChange recentTurnSpec)

/-- ITS FALSE NEIGHBOUR: 'it returns false'. Refute it at one input. -/
def recentTurnWrong : ChangeSpec := { name := "recentTurn", fn := fun _ => fun
  | [d1, d2] => { results := [.lit (.bool false)], args := [d1, d2] }
  | _ => none }
def RecentTurnWrongFalsely : Prop := recentTurnRow.holds Try.pinned (OpenSpec.ofChange recentTurnWrong)

/-- 'stillroomlaw11.IndexOwn': WHATEVER THE INPUT: true; the input reads as it did. -/
def indexOwnSpec : ChangeSpec := { name := "indexOwn", fn := fun _ => fun
  | [d] => { results := [.lit (.bool true)], args := [d] }
  | _ => none }
def indexOwnRow : OpenClaim := { program := "ytbiegknmjedodaa", sum := "a1bf8abcdee8436ecff23e7814b9f9c646ed25c9613340106c1394e054e58937", func := "stillroom/stillroomlaw11.IndexOwn", spec := "indexOwn", recurses := true, plainKeys := false, apart := false }
def IndexOwnSaid : Prop := indexOwnRow.holds Try.pinned (OpenSpec.ofChange indexOwnSpec)

/-- ITS FALSE NEIGHBOUR: 'it returns false'. Refute it at one input. -/
def indexOwnWrong : ChangeSpec := { name := "indexOwn", fn := fun _ => fun
  | [d] => { results := [.lit (.bool false)], args := [d] }
  | _ => none }
def IndexOwnWrongFalsely : Prop := indexOwnRow.holds Try.pinned (OpenSpec.ofChange indexOwnWrong)

/-- 'stillroomlaw11.IndexTenants': WHATEVER THE INPUT: true; the input reads as it did. -/
def indexTenantsSpec : ChangeSpec := { name := "indexTenants", fn := fun _ => fun
  | [d1, d2] => { results := [.lit (.bool true)], args := [d1, d2] }
  | _ => none }
def indexTenantsRow : OpenClaim := { program := "ytbiegknmjedodaa", sum := "a1bf8abcdee8436ecff23e7814b9f9c646ed25c9613340106c1394e054e58937", func := "stillroom/stillroomlaw11.IndexTenants", spec := "indexTenants", unfollowed := true, recurses := true, plainKeys := false, apart := false }
def IndexTenantsSaid : Prop := indexTenantsRow.holds Try.pinned (OpenSpec.ofChange indexTenantsSpec)

/-- ITS FALSE NEIGHBOUR: 'it returns false'. Refute it at one input. -/
def indexTenantsWrong : ChangeSpec := { name := "indexTenants", fn := fun _ => fun
  | [d1, d2] => { results := [.lit (.bool false)], args := [d1, d2] }
  | _ => none }
def IndexTenantsWrongFalsely : Prop := indexTenantsRow.holds Try.pinned (OpenSpec.ofChange indexTenantsWrong)

/- THE SECOND FORM. 'bulk': how many values and letters a reading holds, each counted each time it is reached (what is shared counts as often as it is met; a slice's spare places count too). A statement '..UptoSaid' is the law's where the arguments, and the package variables that the reading takes, are together of bulk at most 1048576: NARROWER than '..Said'. Prove '..Said' where nothing that the law and all that it calls make is longer than what came in: it says more and counts as full. Else prove '..UptoSaid'. A law counts once. -/
mutual
def uptoBulk {H : Type} : DataW H → Nat
  | .lit (.string bytes) => bytes.length + 1
  | .lit _ => 1
  | .nil => 1
  | .ptr d => uptoBulk d + 1
  | .slice elems spare => uptoBulkAll elems + uptoBulkAll spare + 1
  | .agg parts => uptoBulkAll parts + 1
  | .iface _ d => uptoBulk d + 1
  | .map entries => uptoBulkEntries entries + 1
  | .held _ => 1
def uptoBulkAll {H : Type} : List (DataW H) → Nat
  | [] => 0
  | d :: r => uptoBulk d + uptoBulkAll r
def uptoBulkEntries {H : Type} : List (Lit × DataW H) → Nat
  | [] => 0
  | x :: r => uptoBulkEntry x + uptoBulkEntries r
def uptoBulkEntry {H : Type} : Lit × DataW H → Nat
  | (.string bytes, d) => bytes.length + uptoBulk d + 1
  | (_, d) => uptoBulk d + 1
 end
def uptoSmall : (H : Type) → List (DataW H) → Bool := fun _ ds => decide (uptoBulkAll ds ≤ 1048576)
def OpenSpec.upto (s : _root_.Go.ChangeSpec) : _root_.Go.OpenSpec := { _root_.Go.OpenSpec.ofChange s with cond := some uptoSmall }

/-- 'stillroomlaw13.ChooseTurned', WHERE WHAT IT READS IS OF BULK AT MOST 1048576: true; the input reads as it did. -/
def chooseTurnedUptoRow : OpenClaim := { program := "ytbiegknmjedodaa", sum := "a1bf8abcdee8436ecff23e7814b9f9c646ed25c9613340106c1394e054e58937", func := "stillroom/stillroomlaw13.ChooseTurned", spec := "chooseTurned", plainKeys := false, apart := false, narrowed := true }
def ChooseTurnedUptoSaid : Prop := chooseTurnedUptoRow.holds Try.pinned (OpenSpec.upto chooseTurnedSpec)

/-- 'stillroomlaw17.BodyDigits', WHERE WHAT IT READS IS OF BULK AT MOST 1048576: true; the input reads as it did. -/
def bodyDigitsUptoRow : OpenClaim := { program := "ytbiegknmjedodaa", sum := "a1bf8abcdee8436ecff23e7814b9f9c646ed25c9613340106c1394e054e58937", func := "stillroom/stillroomlaw17.BodyDigits", spec := "bodyDigits", plainKeys := false, apart := false, narrowed := true }
def BodyDigitsUptoSaid : Prop := bodyDigitsUptoRow.holds Try.pinned (OpenSpec.upto bodyDigitsSpec)

/-- 'stillroomlaw23.StorableLife', WHERE WHAT IT READS IS OF BULK AT MOST 1048576: true; the input reads as it did. -/
def storableLifeUptoRow : OpenClaim := { program := "ytbiegknmjedodaa", sum := "a1bf8abcdee8436ecff23e7814b9f9c646ed25c9613340106c1394e054e58937", func := "stillroom/stillroomlaw23.StorableLife", spec := "storableLife", inPlace := ["internal/bytealg.IndexByteString", "internal/bytealg.IndexString"], unfollowed := true, recurses := true, named := ["internal/bytealg.MaxLen"], plainKeys := false, apart := false, narrowed := true }
def StorableLifeUptoSaid : Prop := storableLifeUptoRow.holds Try.pinned (OpenSpec.upto storableLifeSpec)

/-- 'stillroomlaw23.StorableStatus', WHERE WHAT IT READS IS OF BULK AT MOST 1048576: true; the input reads as it did. -/
def storableStatusUptoRow : OpenClaim := { program := "ytbiegknmjedodaa", sum := "a1bf8abcdee8436ecff23e7814b9f9c646ed25c9613340106c1394e054e58937", func := "stillroom/stillroomlaw23.StorableStatus", spec := "storableStatus", inPlace := ["internal/bytealg.IndexByteString", "internal/bytealg.IndexString"], unfollowed := true, recurses := true, named := ["internal/bytealg.MaxLen"], plainKeys := false, apart := false, narrowed := true }
def StorableStatusUptoSaid : Prop := storableStatusUptoRow.holds Try.pinned (OpenSpec.upto storableStatusSpec)

/-- 'stillroomlaw12.RecentAll', WHERE WHAT IT READS IS OF BULK AT MOST 1048576: true; the input reads as it did. -/
def recentAllUptoRow : OpenClaim := { program := "ytbiegknmjedodaa", sum := "a1bf8abcdee8436ecff23e7814b9f9c646ed25c9613340106c1394e054e58937", func := "stillroom/stillroomlaw12.RecentAll", spec := "recentAll", unfollowed := true, recurses := true, plainKeys := false, apart := false, narrowed := true }
def RecentAllUptoSaid : Prop := recentAllUptoRow.holds Try.pinned (OpenSpec.upto recentAllSpec)

/-- 'stillroomlaw12.RecentNone', WHERE WHAT IT READS IS OF BULK AT MOST 1048576: true; the input reads as it did. -/
def recentNoneUptoRow : OpenClaim := { program := "ytbiegknmjedodaa", sum := "a1bf8abcdee8436ecff23e7814b9f9c646ed25c9613340106c1394e054e58937", func := "stillroom/stillroomlaw12.RecentNone", spec := "recentNone", unfollowed := true, recurses := true, plainKeys := false, apart := false, narrowed := true }
def RecentNoneUptoSaid : Prop := recentNoneUptoRow.holds Try.pinned (OpenSpec.upto recentNoneSpec)

/-- 'stillroomlaw12.RecentTurn', WHERE WHAT IT READS IS OF BULK AT MOST 1048576: true; the input reads as it did. -/
def recentTurnUptoRow : OpenClaim := { program := "ytbiegknmjedodaa", sum := "a1bf8abcdee8436ecff23e7814b9f9c646ed25c9613340106c1394e054e58937", func := "stillroom/stillroomlaw12.RecentTurn", spec := "recentTurn", unfollowed := true, recurses := true, plainKeys := false, apart := false, narrowed := true }
def RecentTurnUptoSaid : Prop := recentTurnUptoRow.holds Try.pinned (OpenSpec.upto recentTurnSpec)

/-- 'stillroomlaw11.IndexOwn', WHERE WHAT IT READS IS OF BULK AT MOST 1048576: true; the input reads as it did. -/
def indexOwnUptoRow : OpenClaim := { program := "ytbiegknmjedodaa", sum := "a1bf8abcdee8436ecff23e7814b9f9c646ed25c9613340106c1394e054e58937", func := "stillroom/stillroomlaw11.IndexOwn", spec := "indexOwn", recurses := true, plainKeys := false, apart := false, narrowed := true }
def IndexOwnUptoSaid : Prop := indexOwnUptoRow.holds Try.pinned (OpenSpec.upto indexOwnSpec)

/-- 'stillroomlaw11.IndexTenants', WHERE WHAT IT READS IS OF BULK AT MOST 1048576: true; the input reads as it did. -/
def indexTenantsUptoRow : OpenClaim := { program := "ytbiegknmjedodaa", sum := "a1bf8abcdee8436ecff23e7814b9f9c646ed25c9613340106c1394e054e58937", func := "stillroom/stillroomlaw11.IndexTenants", spec := "indexTenants", unfollowed := true, recurses := true, plainKeys := false, apart := false, narrowed := true }
def IndexTenantsUptoSaid : Prop := indexTenantsUptoRow.holds Try.pinned (OpenSpec.upto indexTenantsSpec)

end Rows
end Go.Proofs.Ytbiegknmjedodaa
