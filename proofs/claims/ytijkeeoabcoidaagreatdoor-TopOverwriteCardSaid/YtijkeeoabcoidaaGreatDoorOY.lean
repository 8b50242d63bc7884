/- How a run of TopOverwrite is told by rounds of a loop, all ways. -/
import Derived.Test.YtijkeeoabcoidaaGreatDoorOV
import Derived.KernelRfl
namespace Go.Ev.YtijkeeoabcoidaaGreatDoor
open Go Go.Ev
noncomputable abbrev cfR:FZ := EQ tab 100
/-- What comes behind the loop. -/
noncomputable abbrev goB (r:R):R := Pv (Ad id3 r (rs3 cfR)) re3
noncomputable abbrev goC (c:FZ) (m:Nat) (t:S) (h:Heap) (n:K4):R := canB3 t h n fun t h n => AB (bd3 c t h n) (Wg canO3 (bd3 c) m)
/-- The loop from a state under new names. -/
noncomputable abbrev goG (m:Nat):S->Heap->K4->R := goC cfR m
/-- A round, then what is told of the state under new names. -/
noncomputable abbrev goT (K:S->Heap->K4->R) (t:S) (h:Heap) (n:K4):R := canB3 t h n fun t h n => AB (bd3 cfR t h n) fun t h n => canA3 t h n K
/-- From the start. -/
noncomputable abbrev goS (args:List V) (K:FZ->S->Heap->K4->R):R := Ld cfR (some (xcL3 fun c t h n => canA3 t h n (K c))) args AT Pp
theorem goG_eq (m:Nat):goG (m+1)=goT (goG m) := rfl
theorem run_of {args:List V} {b:Bool} (m:Nat) (hm:m+1=1000000000) (E:Gf (goS args fun c => goC c m)=b) (hr:b=true):Gf (Ld cfR (some xc3) args AT Pp)=true := by
  have e:∀ c, (Ti canO3 (bd3 c):S->Heap->K4->R)=fun t h n => canA3 t h n (goC c m) := fun c => by
    show Wg canO3 (bd3 c) 1000000000=_
    rw [←hm]; rfl
  have e2:xc3=xcL3 fun c t h n => canA3 t h n (goC c m) := congrArg xcL3 (funext e)
  rw [e2, ←hr, ←E]
def okR (r:R):Prop := Gf (goB r)=true
theorem ok_both (a b:R):okR (.both a b) ↔ okR a∧okR b :=
  ⟨fun h => OK (show br (Gf (goB a)) (Gf (goB b)) false=true from h), fun h => by
    obtain ⟨h1, h2⟩ := h
    show br (Gf (goB a)) (Gf (goB b)) false=true
    rw [show Gf (goB a)=true from h1, show Gf (goB b)=true from h2]; rfl⟩
noncomputable abbrev goD:KS := fun t h n => .ok (.exit id3) t h n
noncomputable abbrev goP (m:Nat) (q:K4) (l:List Bool):KS := S8 canA3 canB3 (bd3 cfR) goD (goG m) q l
theorem hyN:∀ t, ∃ t1, ∀ κ:S->R, Y8 yN3 t κ=κ t1 := fun t => by
  obtain ⟨⟨_, _, _, _⟩, ⟨_, _, _, _⟩, ⟨_, _, _, _⟩, ⟨_, _, _, _⟩, ⟨_, _, _, _⟩, ⟨_, _, _, _⟩, ⟨_, _, _, _⟩, ⟨_, _, _, _⟩⟩ := t
  exact ⟨_, fun _ => rfl⟩
theorem unA (t:S) (h:Heap) (n:K4):Un fun κ => canA3 t h n κ := TV (W2 hyN t h n) (G := fun κ t h n => OA ⟨.d0, .d1⟩ 9223372036854775807 t h n κ) fun t h n => Xp _ _ t h n
theorem cjB (t:S) (h:Heap) (n:K4):Cj okR fun κ => canB3 t h n κ := Ww ok_both _ _ t h n
theorem go_rounds (m:Nat):∀ k, goG (m+k)=FN canA3 canB3 (bd3 cfR) (goG m) k
  | 0 => rfl
  | k+1 => by
    have e:goG (m+(k+1))=LR canA3 canB3 (bd3 cfR) (goG (m+k)) := goG_eq (m+k)
    rw [e, go_rounds m k]; rfl
theorem path_run {m k:Nat} {q:K4} {t:S} {h:Heap} {n:K4} (H:∀ l:List Bool, l.length=k->Gf (goB (goP m q l t h n))=true):Gf (goB (goG (m+k) t h n))=true := by
  rw [go_rounds]
  exact TQ (ok := okR) ok_both unA cjB H
end Go.Ev.YtijkeeoabcoidaaGreatDoor
