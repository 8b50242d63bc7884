/- What is run of AnswerCut: a status, all cuts. -/
import Derived.Test.YtljckklenkcnnaaDoorT
import Derived.KernelRfl
namespace Go.Ev.YtljckklenkcnnaaDoor
open Go Go.Ev
set_option maxRecDepth 100000
noncomputable def cutQ (s : Nat) (v : V) : Bool := rTrue (call2 tab 100 (fnKey 5) [.int .i64 s, v] hempty n00)
noncomputable def cutB (s M : Nat) : Bool :=
  br (cutQ s (.oth (.iv .i64 9223372036854775808 18446744073709551615))) (br (cutQ s (.oth (.iv .i64 0 0))) (br (cutQ s (.oth (.iv .i64 (Nat.succ M) 9223372036854775807))) (allN (fun i => cutQ s (.int .i64 (Nat.succ i))) M) false) false) false
noncomputable def cutN (s M k : Nat) : Bool := allN (fun j => forceN (Nat.add s j) fun s => cutB s M) k
end Go.Ev.YtljckklenkcnnaaDoor
