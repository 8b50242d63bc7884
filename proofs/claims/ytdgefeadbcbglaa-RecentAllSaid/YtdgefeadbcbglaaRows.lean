/-
  No cell of these rows narrows 'for every input' (looked for: loops, veiled, ifaces, maps, wideKeys, modest, calm, conditions, laid).
  DERIVED. THE GIVEN ROWS OF THIS SEAT. 6 by the template 'for every input the law returns true; each argument reads behind the call as it read before'; 0 by the template 'total and deterministic' (their statements: YtdgefeadbcbglaaTotals.lean).
  GIVEN WITH THE SEED: the statements are not yours to turn. If you find one false, say at which input.
  Laid BY PROGRAM, IN A SANDBOX (cutbox-rows.mjs): the forced cells as the released guide's own fill.sh prints them over the translation 7f7770bca22b2e51… (all of the seat's roots in one cut). By AI agents, Wed Nov 11 2026. No macro, syntax, notation, axiom, sorry.
-/
import Derived.Test.YtdgefeadbcbglaaChecked
import GoSem.Claim
import GoSem.ClaimJoined
import GoSem.ClaimMapViews
import Derived.JoinedTies
import Derived.KernelRfl
namespace Go.Proofs.Ytdgefeadbcbglaa
/- THE CELL 'sum', in the pinned program and in every row, IS THE sha256 OF THE DUMP (.gsa) THAT YtdgefeadbcbglaaProg.lean LOADS. Nothing in Lean hashes anything: it is a label: what it is worth is what the hold of that sum in a sandbox is worth. -/
noncomputable def Try.pinned : Pinned := { name := "ytdgefeadbcbglaa", sum := "7f7770bca22b2e516de55c4fae727248d16931af6c8375bd6e839f4f7831975a", checked := Try.checked }
namespace Rows
def none {H : Type} : Left H := { results := [], args := [] }

/-- 'stillroomlaw12.RecentAll': WHATEVER THE INPUT: true; the input reads as it did. -/
def recentAllSpec : ChangeSpec := { name := "recentAll", fn := fun _ => fun
  | [d] => { results := [.lit (.bool true)], args := [d] }
  | _ => none }
def recentAllRow : OpenClaim := { program := "ytdgefeadbcbglaa", sum := "7f7770bca22b2e516de55c4fae727248d16931af6c8375bd6e839f4f7831975a", func := "stillroom/stillroomlaw12.RecentAll", spec := "recentAll", unfollowed := true, recurses := true, plainKeys := false, apart := false }
def RecentAllSaid : Prop := recentAllRow.holds Try.pinned (OpenSpec.ofChange recentAllSpec)

/-- ITS FALSE NEIGHBOUR: 'it returns false'. Refute it at one input. -/
def recentAllWrong : ChangeSpec := { name := "recentAll", fn := fun _ => fun
  | [d] => { results := [.lit (.bool false)], args := [d] }
  | _ => none }
def RecentAllWrongFalsely : Prop := recentAllRow.holds Try.pinned (OpenSpec.ofChange recentAllWrong)

/-- 'stillroomlaw5.DiskSync': WHATEVER THE INPUT: true; the input reads as it did. -/
def diskSyncSpec : ChangeSpec := { name := "diskSync", fn := fun _ => fun
  | [d1, d2, d3] => { results := [.lit (.bool true)], args := [d1, d2, d3] }
  | _ => none }
def diskSyncRow : OpenClaim := { program := "ytdgefeadbcbglaa", sum := "7f7770bca22b2e516de55c4fae727248d16931af6c8375bd6e839f4f7831975a", func := "stillroom/stillroomlaw5.DiskSync", spec := "diskSync", inPlace := ["maps.clone"], unfollowed := true, recurses := true, plainKeys := false, apart := false }
def DiskSyncSaid : Prop := diskSyncRow.holds Try.pinned (OpenSpec.ofChange diskSyncSpec)

/-- ITS FALSE NEIGHBOUR: 'it returns false'. Refute it at one input. -/
def diskSyncWrong : ChangeSpec := { name := "diskSync", fn := fun _ => fun
  | [d1, d2, d3] => { results := [.lit (.bool false)], args := [d1, d2, d3] }
  | _ => none }
def DiskSyncWrongFalsely : Prop := diskSyncRow.holds Try.pinned (OpenSpec.ofChange diskSyncWrong)

/-- 'stillroomlaw9.SlotsAll': WHATEVER THE INPUT: true; the input reads as it did. -/
def slotsAllSpec : ChangeSpec := { name := "slotsAll", fn := fun _ => fun
  | [d1, d2, d3] => { results := [.lit (.bool true)], args := [d1, d2, d3] }
  | _ => none }
def slotsAllRow : OpenClaim := { program := "ytdgefeadbcbglaa", sum := "7f7770bca22b2e516de55c4fae727248d16931af6c8375bd6e839f4f7831975a", func := "stillroom/stillroomlaw9.SlotsAll", spec := "slotsAll", inPlace := ["maps.clone"], unfollowed := true, recurses := true, plainKeys := false, apart := false }
def SlotsAllSaid : Prop := slotsAllRow.holds Try.pinned (OpenSpec.ofChange slotsAllSpec)

/-- ITS FALSE NEIGHBOUR: 'it returns false'. Refute it at one input. -/
def slotsAllWrong : ChangeSpec := { name := "slotsAll", fn := fun _ => fun
  | [d1, d2, d3] => { results := [.lit (.bool false)], args := [d1, d2, d3] }
  | _ => none }
def SlotsAllWrongFalsely : Prop := slotsAllRow.holds Try.pinned (OpenSpec.ofChange slotsAllWrong)

/-- 'stillroomlaw9.SlotsAgain': WHATEVER THE INPUT: true; the input reads as it did. -/
def slotsAgainSpec : ChangeSpec := { name := "slotsAgain", fn := fun _ => fun
  | [d1, d2] => { results := [.lit (.bool true)], args := [d1, d2] }
  | _ => none }
def slotsAgainRow : OpenClaim := { program := "ytdgefeadbcbglaa", sum := "7f7770bca22b2e516de55c4fae727248d16931af6c8375bd6e839f4f7831975a", func := "stillroom/stillroomlaw9.SlotsAgain", spec := "slotsAgain", inPlace := ["maps.clone"], unfollowed := true, recurses := true, plainKeys := false, apart := false }
def SlotsAgainSaid : Prop := slotsAgainRow.holds Try.pinned (OpenSpec.ofChange slotsAgainSpec)

/-- ITS FALSE NEIGHBOUR: 'it returns false'. Refute it at one input. -/
def slotsAgainWrong : ChangeSpec := { name := "slotsAgain", fn := fun _ => fun
  | [d1, d2] => { results := [.lit (.bool false)], args := [d1, d2] }
  | _ => none }
def SlotsAgainWrongFalsely : Prop := slotsAgainRow.holds Try.pinned (OpenSpec.ofChange slotsAgainWrong)

/-- 'stillroomlaw10.ManifestMany': WHATEVER THE INPUT: true; the input reads as it did. -/
def manifestManySpec : ChangeSpec := { name := "manifestMany", fn := fun _ => fun
  | [d1, d2] => { results := [.lit (.bool true)], args := [d1, d2] }
  | _ => none }
def manifestManyRow : OpenClaim := { program := "ytdgefeadbcbglaa", sum := "7f7770bca22b2e516de55c4fae727248d16931af6c8375bd6e839f4f7831975a", func := "stillroom/stillroomlaw10.ManifestMany", spec := "manifestMany", inPlace := ["maps.clone"], unfollowed := true, recurses := true, plainKeys := false, apart := false }
def ManifestManySaid : Prop := manifestManyRow.holds Try.pinned (OpenSpec.ofChange manifestManySpec)

/-- ITS FALSE NEIGHBOUR: 'it returns false'. Refute it at one input. -/
def manifestManyWrong : ChangeSpec := { name := "manifestMany", fn := fun _ => fun
  | [d1, d2] => { results := [.lit (.bool false)], args := [d1, d2] }
  | _ => none }
def ManifestManyWrongFalsely : Prop := manifestManyRow.holds Try.pinned (OpenSpec.ofChange manifestManyWrong)

/-- 'stillroomlaw10.ManifestOwn': WHATEVER THE INPUT: true; the input reads as it did. -/
def manifestOwnSpec : ChangeSpec := { name := "manifestOwn", fn := fun _ => fun
  | [d] => { results := [.lit (.bool true)], args := [d] }
  | _ => none }
def manifestOwnRow : OpenClaim := { program := "ytdgefeadbcbglaa", sum := "7f7770bca22b2e516de55c4fae727248d16931af6c8375bd6e839f4f7831975a", func := "stillroom/stillroomlaw10.ManifestOwn", spec := "manifestOwn", inPlace := ["maps.clone"], unfollowed := true, recurses := true, plainKeys := false, apart := false }
def ManifestOwnSaid : Prop := manifestOwnRow.holds Try.pinned (OpenSpec.ofChange manifestOwnSpec)

/-- ITS FALSE NEIGHBOUR: 'it returns false'. Refute it at one input. -/
def manifestOwnWrong : ChangeSpec := { name := "manifestOwn", fn := fun _ => fun
  | [d] => { results := [.lit (.bool false)], args := [d] }
  | _ => none }
def ManifestOwnWrongFalsely : Prop := manifestOwnRow.holds Try.pinned (OpenSpec.ofChange manifestOwnWrong)

/- THE SECOND FORM. 'bulk': how many values and letters a reading holds, each counted each time it is reached (what is shared counts as often as it is met; a slice's spare places count too). A statement '..UptoSaid' is the law's where the arguments, and the package variables that the reading takes, are together of bulk at most 1048576: NARROWER than '..Said'. Prove '..Said' where nothing that the law and all that it calls make is longer than what came in: it says more and counts as full. Else prove '..UptoSaid'. A law counts once. -/
mutual
def uptoBulk {H : Type} : DataW H → Nat
  | .lit (.string bytes) => bytes.length + 1
  | .lit _ => 1
  | .nil => 1
  | .ptr d => uptoBulk d + 1
  | .slice elems spare => uptoBulkAll elems + uptoBulkAll spare + 1
  | .agg parts => uptoBulkAll parts + 1
  | .iface _ d => uptoBulk d + 1
  | .map entries => uptoBulkEntries entries + 1
  | .held _ => 1
def uptoBulkAll {H : Type} : List (DataW H) → Nat
  | [] => 0
  | d :: r => uptoBulk d + uptoBulkAll r
def uptoBulkEntries {H : Type} : List (Lit × DataW H) → Nat
  | [] => 0
  | x :: r => uptoBulkEntry x + uptoBulkEntries r
def uptoBulkEntry {H : Type} : Lit × DataW H → Nat
  | (.string bytes, d) => bytes.length + uptoBulk d + 1
  | (_, d) => uptoBulk d + 1
 end
def uptoSmall : (H : Type) → List (DataW H) → Bool := fun _ ds => decide (uptoBulkAll ds ≤ 1048576)
def OpenSpec.upto (s : _root_.Go.ChangeSpec) : _root_.Go.OpenSpec := { _root_.Go.OpenSpec.ofChange s with cond := some uptoSmall }

/-- 'stillroomlaw12.RecentAll', WHERE WHAT IT READS IS OF BULK AT MOST 1048576: true; the input reads as it did. -/
def recentAllUptoRow : OpenClaim := { program := "ytdgefeadbcbglaa", sum := "7f7770bca22b2e516de55c4fae727248d16931af6c8375bd6e839f4f7831975a", func := "stillroom/stillroomlaw12.RecentAll", spec := "recentAll", unfollowed := true, recurses := true, plainKeys := false, apart := false, narrowed := true }
def RecentAllUptoSaid : Prop := recentAllUptoRow.holds Try.pinned (OpenSpec.upto recentAllSpec)

/-- 'stillroomlaw5.DiskSync', WHERE WHAT IT READS IS OF BULK AT MOST 1048576: true; the input reads as it did. -/
def diskSyncUptoRow : OpenClaim := { program := "ytdgefeadbcbglaa", sum := "7f7770bca22b2e516de55c4fae727248d16931af6c8375bd6e839f4f7831975a", func := "stillroom/stillroomlaw5.DiskSync", spec := "diskSync", inPlace := ["maps.clone"], unfollowed := true, recurses := true, plainKeys := false, apart := false, narrowed := true }
def DiskSyncUptoSaid : Prop := diskSyncUptoRow.holds Try.pinned (OpenSpec.upto diskSyncSpec)

/-- 'stillroomlaw9.SlotsAll', WHERE WHAT IT READS IS OF BULK AT MOST 1048576: true; the input reads as it did. -/
def slotsAllUptoRow : OpenClaim := { program := "ytdgefeadbcbglaa", sum := "7f7770bca22b2e516de55c4fae727248d16931af6c8375bd6e839f4f7831975a", func := "stillroom/stillroomlaw9.SlotsAll", spec := "slotsAll", inPlace := ["maps.clone"], unfollowed := true, recurses := true, plainKeys := false, apart := false, narrowed := true }
def SlotsAllUptoSaid : Prop := slotsAllUptoRow.holds Try.pinned (OpenSpec.upto slotsAllSpec)

/-- 'stillroomlaw9.SlotsAgain', WHERE WHAT IT READS IS OF BULK AT MOST 1048576: true; the input reads as it did. -/
def slotsAgainUptoRow : OpenClaim := { program := "ytdgefeadbcbglaa", sum := "7f7770bca22b2e516de55c4fae727248d16931af6c8375bd6e839f4f7831975a", func := "stillroom/stillroomlaw9.SlotsAgain", spec := "slotsAgain", inPlace := ["maps.clone"], unfollowed := true, recurses := true, plainKeys := false, apart := false, narrowed := true }
def SlotsAgainUptoSaid : Prop := slotsAgainUptoRow.holds Try.pinned (OpenSpec.upto slotsAgainSpec)

/-- 'stillroomlaw10.ManifestMany', WHERE WHAT IT READS IS OF BULK AT MOST 1048576: true; the input reads as it did. -/
def manifestManyUptoRow : OpenClaim := { program := "ytdgefeadbcbglaa", sum := "7f7770bca22b2e516de55c4fae727248d16931af6c8375bd6e839f4f7831975a", func := "stillroom/stillroomlaw10.ManifestMany", spec := "manifestMany", inPlace := ["maps.clone"], unfollowed := true, recurses := true, plainKeys := false, apart := false, narrowed := true }
def ManifestManyUptoSaid : Prop := manifestManyUptoRow.holds Try.pinned (OpenSpec.upto manifestManySpec)

/-- 'stillroomlaw10.ManifestOwn', WHERE WHAT IT READS IS OF BULK AT MOST 1048576: true; the input reads as it did. -/
def manifestOwnUptoRow : OpenClaim := { program := "ytdgefeadbcbglaa", sum := "7f7770bca22b2e516de55c4fae727248d16931af6c8375bd6e839f4f7831975a", func := "stillroom/stillroomlaw10.ManifestOwn", spec := "manifestOwn", inPlace := ["maps.clone"], unfollowed := true, recurses := true, plainKeys := false, apart := false, narrowed := true }
def ManifestOwnUptoSaid : Prop := manifestOwnUptoRow.holds Try.pinned (OpenSpec.upto manifestOwnSpec)

end Rows
end Go.Proofs.Ytdgefeadbcbglaa
