/- How a run of TopEveryCrash is cut at rounds of a loop. -/
import Derived.Test.YtnelgnghdioapaaGreatDoorCV
import Derived.KernelRfl
namespace Go.Ev.YtnelgnghdioapaaGreatDoor
open Go Go.Ev
noncomputable abbrev cfR:FL := E5 tab 100
/-- From the start, k rounds. -/
noncomputable abbrev goE (args:List V) (k:Nat) (K:FL->S->Heap->K4->R):R := KY cfR (some (xcL4 fun c => VA canO4 (bd4 c) (fun t h n => canO4 t h n (K c)) k)) args AF Em
/-- One round more than k, from a state. -/
noncomputable abbrev goR (s:S) (h:Heap) (n:K4) (k:Nat) (K:S->Heap->K4->R):R := At (bd4 cfR s h n) (VA canO4 (bd4 cfR) (fun t h n => canO4 t h n K) k)
/-- What comes behind the loop. -/
noncomputable abbrev goB (r:R):R := OI (Ac id4 r (rs4 cfR)) re4
theorem rnd_step {s s':S} {h h':Heap} {n n':K4} {k:Nat} (A:(fun K => goR s h n k K)=fun K => K s' h' n') (j:Nat) :
    At (bd4 cfR s h n) (OX canO4 (bd4 cfR) (j+1+k))=At (bd4 cfR s' h' n') (OX canO4 (bd4 cfR) j) := by
  rw [←Po]
  exact congrFun A fun t h n => At (bd4 cfR t h n) (OX canO4 (bd4 cfR) j)
theorem loop_at {j k:Nat} (h:j+k=1000000000) (c:FL):Qa canO4 (bd4 c)=VA canO4 (bd4 c) (OX canO4 (bd4 c) j) k := by rw [Po, h]; rfl
theorem xc_eq {j k:Nat} (h:j+k=1000000000):xc4=xcL4 fun c => VA canO4 (bd4 c) (OX canO4 (bd4 c) j) k := congrArg xcL4 (funext (loop_at h))
theorem run_of {args:List V} {s:S} {h:Heap} {n:K4} {k:Nat} (j:Nat) (hk:j+1+k=1000000000) (E:(fun K => goE args k K)=fun K => goB (K cfR s h n))
    (hr:KM (goB (At (bd4 cfR s h n) (OX canO4 (bd4 cfR) j)))=true):KM (KY cfR (some xc4) args AF Em)=true := by
  rw [xc_eq hk]
  exact (congrArg KM (congrFun E fun c t h n => At (bd4 c t h n) (OX canO4 (bd4 c) j))).trans hr
end Go.Ev.YtnelgnghdioapaaGreatDoor
