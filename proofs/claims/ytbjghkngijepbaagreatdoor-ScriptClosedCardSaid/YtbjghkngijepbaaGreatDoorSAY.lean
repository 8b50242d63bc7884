/- How a run of ScriptClosed is told by rounds of a loop, all ways. -/
import Derived.Test.YtbjghkngijepbaaGreatDoorSAV
import Derived.KernelRfl
namespace Go.Ev.YtbjghkngijepbaaGreatDoor
open Go Go.Ev
noncomputable abbrev cfR:FK := Ch tab 100
/-- What comes behind the loop. -/
noncomputable abbrev goB (r:R):R := P7 (Ad id5 r (rs5 cfR)) re5
noncomputable abbrev goC (c:FK) (m:Nat) (t:S) (h:Heap) (n:K4):R := canB5 t h n fun t h n => AQ (bd5 c t h n) (VX canO5 (bd5 c) m)
/-- The loop from a state under new names. -/
noncomputable abbrev goG (m:Nat):S->Heap->K4->R := goC cfR m
/-- A round, then what is told of the state under new names. -/
noncomputable abbrev goT (K:S->Heap->K4->R) (t:S) (h:Heap) (n:K4):R := canB5 t h n fun t h n => AQ (bd5 cfR t h n) fun t h n => canA5 t h n K
/-- From the start. -/
noncomputable abbrev goS (args:List V) (K:FK->S->Heap->K4->R):R := Lc cfR (some (xcL5 fun c t h n => canA5 t h n (K c))) args AL IL
theorem goG_eq (m:Nat):goG (m+1)=goT (goG m) := rfl
theorem run_of {args:List V} {b:Bool} (m:Nat) (hm:m+1=1000000000) (E:Al (goS args fun c => goC c m)=b) (hr:b=true):Al (Lc cfR (some xc5) args AL IL)=true := by
  have e:∀ c, (RX canO5 (bd5 c):S->Heap->K4->R)=fun t h n => canA5 t h n (goC c m) := fun c => by
    show VX canO5 (bd5 c) 1000000000=_
    rw [←hm]; rfl
  have e2:xc5=xcL5 fun c t h n => canA5 t h n (goC c m) := congrArg xcL5 (funext e)
  rw [e2, ←hr, ←E]
end Go.Ev.YtbjghkngijepbaaGreatDoor
