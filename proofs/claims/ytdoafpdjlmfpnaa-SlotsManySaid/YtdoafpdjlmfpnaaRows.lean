/-
  No cell of these rows narrows 'for every input' (looked for: loops, veiled, ifaces, maps, wideKeys, modest, calm, conditions, laid).
  DERIVED. THE GIVEN ROWS OF THIS SEAT. 12 by the template 'for every input the law returns true; each argument reads behind the call as it read before'; 0 by the template 'total and deterministic' (their statements: YtdoafpdjlmfpnaaTotals.lean).
  GIVEN WITH THE SEED: the statements are not yours to turn. If you find one false, say at which input.
  Laid BY PROGRAM, IN A SANDBOX (cutbox-rows.mjs): the forced cells as the released guide's own fill.sh prints them over the translation 55371a49190fedc7… (all of the seat's roots in one cut). By AI agents, Wed Nov 11 2026. No macro, syntax, notation, axiom, sorry.
-/
import Derived.Test.YtdoafpdjlmfpnaaChecked
import GoSem.Claim
import GoSem.ClaimJoined
import GoSem.ClaimMapViews
import Derived.JoinedTies
import Derived.KernelRfl
namespace Go.Proofs.Ytdoafpdjlmfpnaa
/- THE CELL 'sum', in the pinned program and in every row, IS THE sha256 OF THE DUMP (.gsa) THAT YtdoafpdjlmfpnaaProg.lean LOADS. Nothing in Lean hashes anything: it is a label: what it is worth is what the hold of that sum in a sandbox is worth. -/
noncomputable def Try.pinned : Pinned := { name := "ytdoafpdjlmfpnaa", sum := "55371a49190fedc78b5ac9f26788da10f8cbeb77a6b3152169d7cc05db198563", checked := Try.checked }
namespace Rows
def none {H : Type} : Left H := { results := [], args := [] }

/-- 'stillroomlaw12.RecentNone': WHATEVER THE INPUT: true; the input reads as it did. -/
def recentNoneSpec : ChangeSpec := { name := "recentNone", fn := fun _ => fun
  | [] => { results := [.lit (.bool true)], args := [] }
  | _ => none }
def recentNoneRow : OpenClaim := { program := "ytdoafpdjlmfpnaa", sum := "55371a49190fedc78b5ac9f26788da10f8cbeb77a6b3152169d7cc05db198563", func := "stillroom/stillroomlaw12.RecentNone", spec := "recentNone", unfollowed := true, recurses := true, plainKeys := false, apart := false }
def RecentNoneSaid : Prop := recentNoneRow.holds Try.pinned (OpenSpec.ofChange recentNoneSpec)

/-- ITS FALSE NEIGHBOUR: 'it returns false'. Refute it at one input. -/
def recentNoneWrong : ChangeSpec := { name := "recentNone", fn := fun _ => fun
  | [] => { results := [.lit (.bool false)], args := [] }
  | _ => none }
def RecentNoneWrongFalsely : Prop := recentNoneRow.holds Try.pinned (OpenSpec.ofChange recentNoneWrong)

/-- 'stillroomlaw12.RecentTurn': WHATEVER THE INPUT: true; the input reads as it did. -/
def recentTurnSpec : ChangeSpec := { name := "recentTurn", fn := fun _ => fun
  | [d1, d2] => { results := [.lit (.bool true)], args := [d1, d2] }
  | _ => none }
def recentTurnRow : OpenClaim := { program := "ytdoafpdjlmfpnaa", sum := "55371a49190fedc78b5ac9f26788da10f8cbeb77a6b3152169d7cc05db198563", func := "stillroom/stillroomlaw12.RecentTurn", spec := "recentTurn", unfollowed := true, recurses := true, plainKeys := false, apart := false }
def RecentTurnSaid : Prop := recentTurnRow.holds Try.pinned (OpenSpec.ofChange recentTurnSpec)

/-- ITS FALSE NEIGHBOUR: 'it returns false'. Refute it at one input. -/
def recentTurnWrong : ChangeSpec := { name := "recentTurn", fn := fun _ => fun
  | [d1, d2] => { results := [.lit (.bool false)], args := [d1, d2] }
  | _ => none }
def RecentTurnWrongFalsely : Prop := recentTurnRow.holds Try.pinned (OpenSpec.ofChange recentTurnWrong)

/-- 'stillroomlaw11.IndexOwn': WHATEVER THE INPUT: true; the input reads as it did. -/
def indexOwnSpec : ChangeSpec := { name := "indexOwn", fn := fun _ => fun
  | [d] => { results := [.lit (.bool true)], args := [d] }
  | _ => none }
def indexOwnRow : OpenClaim := { program := "ytdoafpdjlmfpnaa", sum := "55371a49190fedc78b5ac9f26788da10f8cbeb77a6b3152169d7cc05db198563", func := "stillroom/stillroomlaw11.IndexOwn", spec := "indexOwn", recurses := true, plainKeys := false, apart := false }
def IndexOwnSaid : Prop := indexOwnRow.holds Try.pinned (OpenSpec.ofChange indexOwnSpec)

/-- ITS FALSE NEIGHBOUR: 'it returns false'. Refute it at one input. -/
def indexOwnWrong : ChangeSpec := { name := "indexOwn", fn := fun _ => fun
  | [d] => { results := [.lit (.bool false)], args := [d] }
  | _ => none }
def IndexOwnWrongFalsely : Prop := indexOwnRow.holds Try.pinned (OpenSpec.ofChange indexOwnWrong)

/-- 'stillroomlaw11.IndexTenants': WHATEVER THE INPUT: true; the input reads as it did. -/
def indexTenantsSpec : ChangeSpec := { name := "indexTenants", fn := fun _ => fun
  | [d1, d2] => { results := [.lit (.bool true)], args := [d1, d2] }
  | _ => none }
def indexTenantsRow : OpenClaim := { program := "ytdoafpdjlmfpnaa", sum := "55371a49190fedc78b5ac9f26788da10f8cbeb77a6b3152169d7cc05db198563", func := "stillroom/stillroomlaw11.IndexTenants", spec := "indexTenants", unfollowed := true, recurses := true, plainKeys := false, apart := false }
def IndexTenantsSaid : Prop := indexTenantsRow.holds Try.pinned (OpenSpec.ofChange indexTenantsSpec)

/-- ITS FALSE NEIGHBOUR: 'it returns false'. Refute it at one input. -/
def indexTenantsWrong : ChangeSpec := { name := "indexTenants", fn := fun _ => fun
  | [d1, d2] => { results := [.lit (.bool false)], args := [d1, d2] }
  | _ => none }
def IndexTenantsWrongFalsely : Prop := indexTenantsRow.holds Try.pinned (OpenSpec.ofChange indexTenantsWrong)

/-- 'stillroomlaw11.IndexNone': WHATEVER THE INPUT: true; the input reads as it did. -/
def indexNoneSpec : ChangeSpec := { name := "indexNone", fn := fun _ => fun
  | [] => { results := [.lit (.bool true)], args := [] }
  | _ => none }
def indexNoneRow : OpenClaim := { program := "ytdoafpdjlmfpnaa", sum := "55371a49190fedc78b5ac9f26788da10f8cbeb77a6b3152169d7cc05db198563", func := "stillroom/stillroomlaw11.IndexNone", spec := "indexNone", unfollowed := true, recurses := true, plainKeys := false, apart := false }
def IndexNoneSaid : Prop := indexNoneRow.holds Try.pinned (OpenSpec.ofChange indexNoneSpec)

/-- ITS FALSE NEIGHBOUR: 'it returns false'. Refute it at one input. -/
def indexNoneWrong : ChangeSpec := { name := "indexNone", fn := fun _ => fun
  | [] => { results := [.lit (.bool false)], args := [] }
  | _ => none }
def IndexNoneWrongFalsely : Prop := indexNoneRow.holds Try.pinned (OpenSpec.ofChange indexNoneWrong)

/-- 'stillroomlaw9.SlotsNone': WHATEVER THE INPUT: true; the input reads as it did. -/
def slotsNoneSpec : ChangeSpec := { name := "slotsNone", fn := fun _ => fun
  | [] => { results := [.lit (.bool true)], args := [] }
  | _ => none }
def slotsNoneRow : OpenClaim := { program := "ytdoafpdjlmfpnaa", sum := "55371a49190fedc78b5ac9f26788da10f8cbeb77a6b3152169d7cc05db198563", func := "stillroom/stillroomlaw9.SlotsNone", spec := "slotsNone", inPlace := ["maps.clone"], unfollowed := true, recurses := true, plainKeys := false, apart := false }
def SlotsNoneSaid : Prop := slotsNoneRow.holds Try.pinned (OpenSpec.ofChange slotsNoneSpec)

/-- ITS FALSE NEIGHBOUR: 'it returns false'. Refute it at one input. -/
def slotsNoneWrong : ChangeSpec := { name := "slotsNone", fn := fun _ => fun
  | [] => { results := [.lit (.bool false)], args := [] }
  | _ => none }
def SlotsNoneWrongFalsely : Prop := slotsNoneRow.holds Try.pinned (OpenSpec.ofChange slotsNoneWrong)

/-- 'stillroomlaw9.SlotsMany': WHATEVER THE INPUT: true; the input reads as it did. -/
def slotsManySpec : ChangeSpec := { name := "slotsMany", fn := fun _ => fun
  | [d] => { results := [.lit (.bool true)], args := [d] }
  | _ => none }
def slotsManyRow : OpenClaim := { program := "ytdoafpdjlmfpnaa", sum := "55371a49190fedc78b5ac9f26788da10f8cbeb77a6b3152169d7cc05db198563", func := "stillroom/stillroomlaw9.SlotsMany", spec := "slotsMany", inPlace := ["maps.clone"], unfollowed := true, recurses := true, plainKeys := false, apart := false }
def SlotsManySaid : Prop := slotsManyRow.holds Try.pinned (OpenSpec.ofChange slotsManySpec)

/-- ITS FALSE NEIGHBOUR: 'it returns false'. Refute it at one input. -/
def slotsManyWrong : ChangeSpec := { name := "slotsMany", fn := fun _ => fun
  | [d] => { results := [.lit (.bool false)], args := [d] }
  | _ => none }
def SlotsManyWrongFalsely : Prop := slotsManyRow.holds Try.pinned (OpenSpec.ofChange slotsManyWrong)

/-- 'stillroomlaw5.DiskSwitch': WHATEVER THE INPUT: true; the input reads as it did. -/
def diskSwitchSpec : ChangeSpec := { name := "diskSwitch", fn := fun _ => fun
  | [d1, d2, d3] => { results := [.lit (.bool true)], args := [d1, d2, d3] }
  | _ => none }
def diskSwitchRow : OpenClaim := { program := "ytdoafpdjlmfpnaa", sum := "55371a49190fedc78b5ac9f26788da10f8cbeb77a6b3152169d7cc05db198563", func := "stillroom/stillroomlaw5.DiskSwitch", spec := "diskSwitch", inPlace := ["maps.clone"], unfollowed := true, recurses := true, plainKeys := false, apart := false }
def DiskSwitchSaid : Prop := diskSwitchRow.holds Try.pinned (OpenSpec.ofChange diskSwitchSpec)

/-- ITS FALSE NEIGHBOUR: 'it returns false'. Refute it at one input. -/
def diskSwitchWrong : ChangeSpec := { name := "diskSwitch", fn := fun _ => fun
  | [d1, d2, d3] => { results := [.lit (.bool false)], args := [d1, d2, d3] }
  | _ => none }
def DiskSwitchWrongFalsely : Prop := diskSwitchRow.holds Try.pinned (OpenSpec.ofChange diskSwitchWrong)

/-- 'stillroomlaw5.DiskSync': WHATEVER THE INPUT: true; the input reads as it did. -/
def diskSyncSpec : ChangeSpec := { name := "diskSync", fn := fun _ => fun
  | [d1, d2, d3] => { results := [.lit (.bool true)], args := [d1, d2, d3] }
  | _ => none }
def diskSyncRow : OpenClaim := { program := "ytdoafpdjlmfpnaa", sum := "55371a49190fedc78b5ac9f26788da10f8cbeb77a6b3152169d7cc05db198563", func := "stillroom/stillroomlaw5.DiskSync", spec := "diskSync", inPlace := ["maps.clone"], unfollowed := true, recurses := true, plainKeys := false, apart := false }
def DiskSyncSaid : Prop := diskSyncRow.holds Try.pinned (OpenSpec.ofChange diskSyncSpec)

/-- ITS FALSE NEIGHBOUR: 'it returns false'. Refute it at one input. -/
def diskSyncWrong : ChangeSpec := { name := "diskSync", fn := fun _ => fun
  | [d1, d2, d3] => { results := [.lit (.bool false)], args := [d1, d2, d3] }
  | _ => none }
def DiskSyncWrongFalsely : Prop := diskSyncRow.holds Try.pinned (OpenSpec.ofChange diskSyncWrong)

/-- 'stillroomlaw10.ManifestNone': WHATEVER THE INPUT: true; the input reads as it did. -/
def manifestNoneSpec : ChangeSpec := { name := "manifestNone", fn := fun _ => fun
  | [] => { results := [.lit (.bool true)], args := [] }
  | _ => none }
def manifestNoneRow : OpenClaim := { program := "ytdoafpdjlmfpnaa", sum := "55371a49190fedc78b5ac9f26788da10f8cbeb77a6b3152169d7cc05db198563", func := "stillroom/stillroomlaw10.ManifestNone", spec := "manifestNone", inPlace := ["maps.clone"], unfollowed := true, recurses := true, plainKeys := false, apart := false }
def ManifestNoneSaid : Prop := manifestNoneRow.holds Try.pinned (OpenSpec.ofChange manifestNoneSpec)

/-- ITS FALSE NEIGHBOUR: 'it returns false'. Refute it at one input. -/
def manifestNoneWrong : ChangeSpec := { name := "manifestNone", fn := fun _ => fun
  | [] => { results := [.lit (.bool false)], args := [] }
  | _ => none }
def ManifestNoneWrongFalsely : Prop := manifestNoneRow.holds Try.pinned (OpenSpec.ofChange manifestNoneWrong)

/-- 'stillroomlaw10.ManifestMany': WHATEVER THE INPUT: true; the input reads as it did. -/
def manifestManySpec : ChangeSpec := { name := "manifestMany", fn := fun _ => fun
  | [d1, d2] => { results := [.lit (.bool true)], args := [d1, d2] }
  | _ => none }
def manifestManyRow : OpenClaim := { program := "ytdoafpdjlmfpnaa", sum := "55371a49190fedc78b5ac9f26788da10f8cbeb77a6b3152169d7cc05db198563", func := "stillroom/stillroomlaw10.ManifestMany", spec := "manifestMany", inPlace := ["maps.clone"], unfollowed := true, recurses := true, plainKeys := false, apart := false }
def ManifestManySaid : Prop := manifestManyRow.holds Try.pinned (OpenSpec.ofChange manifestManySpec)

/-- ITS FALSE NEIGHBOUR: 'it returns false'. Refute it at one input. -/
def manifestManyWrong : ChangeSpec := { name := "manifestMany", fn := fun _ => fun
  | [d1, d2] => { results := [.lit (.bool false)], args := [d1, d2] }
  | _ => none }
def ManifestManyWrongFalsely : Prop := manifestManyRow.holds Try.pinned (OpenSpec.ofChange manifestManyWrong)

/-- 'stillroomlaw10.ManifestOwn': WHATEVER THE INPUT: true; the input reads as it did. -/
def manifestOwnSpec : ChangeSpec := { name := "manifestOwn", fn := fun _ => fun
  | [d] => { results := [.lit (.bool true)], args := [d] }
  | _ => none }
def manifestOwnRow : OpenClaim := { program := "ytdoafpdjlmfpnaa", sum := "55371a49190fedc78b5ac9f26788da10f8cbeb77a6b3152169d7cc05db198563", func := "stillroom/stillroomlaw10.ManifestOwn", spec := "manifestOwn", inPlace := ["maps.clone"], unfollowed := true, recurses := true, plainKeys := false, apart := false }
def ManifestOwnSaid : Prop := manifestOwnRow.holds Try.pinned (OpenSpec.ofChange manifestOwnSpec)

/-- ITS FALSE NEIGHBOUR: 'it returns false'. Refute it at one input. -/
def manifestOwnWrong : ChangeSpec := { name := "manifestOwn", fn := fun _ => fun
  | [d] => { results := [.lit (.bool false)], args := [d] }
  | _ => none }
def ManifestOwnWrongFalsely : Prop := manifestOwnRow.holds Try.pinned (OpenSpec.ofChange manifestOwnWrong)

/- THE SECOND FORM. 'bulk': how many values and letters a reading holds, each counted each time it is reached (what is shared counts as often as it is met; a slice's spare places count too). A statement '..UptoSaid' is the law's where the arguments, and the package variables that the reading takes, are together of bulk at most 1048576: NARROWER than '..Said'. Prove '..Said' where nothing that the law and all that it calls make is longer than what came in: it says more and counts as full. Else prove '..UptoSaid'. A law counts once. -/
mutual
def uptoBulk {H : Type} : DataW H → Nat
  | .lit (.string bytes) => bytes.length + 1
  | .lit _ => 1
  | .nil => 1
  | .ptr d => uptoBulk d + 1
  | .slice elems spare => uptoBulkAll elems + uptoBulkAll spare + 1
  | .agg parts => uptoBulkAll parts + 1
  | .iface _ d => uptoBulk d + 1
  | .map entries => uptoBulkEntries entries + 1
  | .held _ => 1
def uptoBulkAll {H : Type} : List (DataW H) → Nat
  | [] => 0
  | d :: r => uptoBulk d + uptoBulkAll r
def uptoBulkEntries {H : Type} : List (Lit × DataW H) → Nat
  | [] => 0
  | x :: r => uptoBulkEntry x + uptoBulkEntries r
def uptoBulkEntry {H : Type} : Lit × DataW H → Nat
  | (.string bytes, d) => bytes.length + uptoBulk d + 1
  | (_, d) => uptoBulk d + 1
 end
def uptoSmall : (H : Type) → List (DataW H) → Bool := fun _ ds => decide (uptoBulkAll ds ≤ 1048576)
def OpenSpec.upto (s : _root_.Go.ChangeSpec) : _root_.Go.OpenSpec := { _root_.Go.OpenSpec.ofChange s with cond := some uptoSmall }

/-- 'stillroomlaw12.RecentNone', WHERE WHAT IT READS IS OF BULK AT MOST 1048576: true; the input reads as it did. -/
def recentNoneUptoRow : OpenClaim := { program := "ytdoafpdjlmfpnaa", sum := "55371a49190fedc78b5ac9f26788da10f8cbeb77a6b3152169d7cc05db198563", func := "stillroom/stillroomlaw12.RecentNone", spec := "recentNone", unfollowed := true, recurses := true, plainKeys := false, apart := false, narrowed := true }
def RecentNoneUptoSaid : Prop := recentNoneUptoRow.holds Try.pinned (OpenSpec.upto recentNoneSpec)

/-- 'stillroomlaw12.RecentTurn', WHERE WHAT IT READS IS OF BULK AT MOST 1048576: true; the input reads as it did. -/
def recentTurnUptoRow : OpenClaim := { program := "ytdoafpdjlmfpnaa", sum := "55371a49190fedc78b5ac9f26788da10f8cbeb77a6b3152169d7cc05db198563", func := "stillroom/stillroomlaw12.RecentTurn", spec := "recentTurn", unfollowed := true, recurses := true, plainKeys := false, apart := false, narrowed := true }
def RecentTurnUptoSaid : Prop := recentTurnUptoRow.holds Try.pinned (OpenSpec.upto recentTurnSpec)

/-- 'stillroomlaw11.IndexOwn', WHERE WHAT IT READS IS OF BULK AT MOST 1048576: true; the input reads as it did. -/
def indexOwnUptoRow : OpenClaim := { program := "ytdoafpdjlmfpnaa", sum := "55371a49190fedc78b5ac9f26788da10f8cbeb77a6b3152169d7cc05db198563", func := "stillroom/stillroomlaw11.IndexOwn", spec := "indexOwn", recurses := true, plainKeys := false, apart := false, narrowed := true }
def IndexOwnUptoSaid : Prop := indexOwnUptoRow.holds Try.pinned (OpenSpec.upto indexOwnSpec)

/-- 'stillroomlaw11.IndexTenants', WHERE WHAT IT READS IS OF BULK AT MOST 1048576: true; the input reads as it did. -/
def indexTenantsUptoRow : OpenClaim := { program := "ytdoafpdjlmfpnaa", sum := "55371a49190fedc78b5ac9f26788da10f8cbeb77a6b3152169d7cc05db198563", func := "stillroom/stillroomlaw11.IndexTenants", spec := "indexTenants", unfollowed := true, recurses := true, plainKeys := false, apart := false, narrowed := true }
def IndexTenantsUptoSaid : Prop := indexTenantsUptoRow.holds Try.pinned (OpenSpec.upto indexTenantsSpec)

/-- 'stillroomlaw11.IndexNone', WHERE WHAT IT READS IS OF BULK AT MOST 1048576: true; the input reads as it did. -/
def indexNoneUptoRow : OpenClaim := { program := "ytdoafpdjlmfpnaa", sum := "55371a49190fedc78b5ac9f26788da10f8cbeb77a6b3152169d7cc05db198563", func := "stillroom/stillroomlaw11.IndexNone", spec := "indexNone", unfollowed := true, recurses := true, plainKeys := false, apart := false, narrowed := true }
def IndexNoneUptoSaid : Prop := indexNoneUptoRow.holds Try.pinned (OpenSpec.upto indexNoneSpec)

/-- 'stillroomlaw9.SlotsNone', WHERE WHAT IT READS IS OF BULK AT MOST 1048576: true; the input reads as it did. -/
def slotsNoneUptoRow : OpenClaim := { program := "ytdoafpdjlmfpnaa", sum := "55371a49190fedc78b5ac9f26788da10f8cbeb77a6b3152169d7cc05db198563", func := "stillroom/stillroomlaw9.SlotsNone", spec := "slotsNone", inPlace := ["maps.clone"], unfollowed := true, recurses := true, plainKeys := false, apart := false, narrowed := true }
def SlotsNoneUptoSaid : Prop := slotsNoneUptoRow.holds Try.pinned (OpenSpec.upto slotsNoneSpec)

/-- 'stillroomlaw9.SlotsMany', WHERE WHAT IT READS IS OF BULK AT MOST 1048576: true; the input reads as it did. -/
def slotsManyUptoRow : OpenClaim := { program := "ytdoafpdjlmfpnaa", sum := "55371a49190fedc78b5ac9f26788da10f8cbeb77a6b3152169d7cc05db198563", func := "stillroom/stillroomlaw9.SlotsMany", spec := "slotsMany", inPlace := ["maps.clone"], unfollowed := true, recurses := true, plainKeys := false, apart := false, narrowed := true }
def SlotsManyUptoSaid : Prop := slotsManyUptoRow.holds Try.pinned (OpenSpec.upto slotsManySpec)

/-- 'stillroomlaw5.DiskSwitch', WHERE WHAT IT READS IS OF BULK AT MOST 1048576: true; the input reads as it did. -/
def diskSwitchUptoRow : OpenClaim := { program := "ytdoafpdjlmfpnaa", sum := "55371a49190fedc78b5ac9f26788da10f8cbeb77a6b3152169d7cc05db198563", func := "stillroom/stillroomlaw5.DiskSwitch", spec := "diskSwitch", inPlace := ["maps.clone"], unfollowed := true, recurses := true, plainKeys := false, apart := false, narrowed := true }
def DiskSwitchUptoSaid : Prop := diskSwitchUptoRow.holds Try.pinned (OpenSpec.upto diskSwitchSpec)

/-- 'stillroomlaw5.DiskSync', WHERE WHAT IT READS IS OF BULK AT MOST 1048576: true; the input reads as it did. -/
def diskSyncUptoRow : OpenClaim := { program := "ytdoafpdjlmfpnaa", sum := "55371a49190fedc78b5ac9f26788da10f8cbeb77a6b3152169d7cc05db198563", func := "stillroom/stillroomlaw5.DiskSync", spec := "diskSync", inPlace := ["maps.clone"], unfollowed := true, recurses := true, plainKeys := false, apart := false, narrowed := true }
def DiskSyncUptoSaid : Prop := diskSyncUptoRow.holds Try.pinned (OpenSpec.upto diskSyncSpec)

/-- 'stillroomlaw10.ManifestNone', WHERE WHAT IT READS IS OF BULK AT MOST 1048576: true; the input reads as it did. -/
def manifestNoneUptoRow : OpenClaim := { program := "ytdoafpdjlmfpnaa", sum := "55371a49190fedc78b5ac9f26788da10f8cbeb77a6b3152169d7cc05db198563", func := "stillroom/stillroomlaw10.ManifestNone", spec := "manifestNone", inPlace := ["maps.clone"], unfollowed := true, recurses := true, plainKeys := false, apart := false, narrowed := true }
def ManifestNoneUptoSaid : Prop := manifestNoneUptoRow.holds Try.pinned (OpenSpec.upto manifestNoneSpec)

/-- 'stillroomlaw10.ManifestMany', WHERE WHAT IT READS IS OF BULK AT MOST 1048576: true; the input reads as it did. -/
def manifestManyUptoRow : OpenClaim := { program := "ytdoafpdjlmfpnaa", sum := "55371a49190fedc78b5ac9f26788da10f8cbeb77a6b3152169d7cc05db198563", func := "stillroom/stillroomlaw10.ManifestMany", spec := "manifestMany", inPlace := ["maps.clone"], unfollowed := true, recurses := true, plainKeys := false, apart := false, narrowed := true }
def ManifestManyUptoSaid : Prop := manifestManyUptoRow.holds Try.pinned (OpenSpec.upto manifestManySpec)

/-- 'stillroomlaw10.ManifestOwn', WHERE WHAT IT READS IS OF BULK AT MOST 1048576: true; the input reads as it did. -/
def manifestOwnUptoRow : OpenClaim := { program := "ytdoafpdjlmfpnaa", sum := "55371a49190fedc78b5ac9f26788da10f8cbeb77a6b3152169d7cc05db198563", func := "stillroom/stillroomlaw10.ManifestOwn", spec := "manifestOwn", inPlace := ["maps.clone"], unfollowed := true, recurses := true, plainKeys := false, apart := false, narrowed := true }
def ManifestOwnUptoSaid : Prop := manifestOwnUptoRow.holds Try.pinned (OpenSpec.upto manifestOwnSpec)

end Rows
end Go.Proofs.Ytdoafpdjlmfpnaa
