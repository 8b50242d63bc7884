/- Words of these texts. -/
import Derived.Test.YthjkpfnkahfdgaaDoorEv4
import Derived.Test.YthjkpfnkahfdgaaDoorProg
namespace Go.Ev.YthjkpfnkahfdgaaDoor
open Go Go.Ev
set_option linter.unusedVariables false
noncomputable section
noncomputable abbrev PP : Program := Go.Proofs.Tryd.prog
abbrev gK (a b : V) (h : Heap) (n : K4) (k : V → Heap → K4 → R) : R := gdX true a h n (fun k => k b h n) k
abbrev gO (a : V) (h : Heap) (n : K4) (F : (V → R) → R) (k : V → Heap → K4 → R) : R := gdX true a h n (fun k => F fun v => k v h n) k
abbrev gA (a : V) (r : R) (k : V → R) : R := gdV true a (fun k => atV r k) k
abbrev mV (a : V) (k : V → R) : R := atV (rvV a) k
abbrev en0 : List V → (S → R) → R := (fun l k=>nlK l<|k sempty)
abbrev en1 : List V → (S → R) → R := (fun l k=>unK l fun a0 l=>nlK l<|k (.mk (.mk a0 U U U) Q0 Q0 Q0 Q0 Q0 Q0 Q0))
abbrev en2 : List V → (S → R) → R := (fun l k=>unK l fun a0 l=>unK l fun a1 l=>unK l fun a2 l=>unK l fun a3 l=>unK l fun a4 l=>nlK l<|k (.mk (.mk a0 a1 a2 a3) (.mk a4 U U U) Q0 Q0 Q0 Q0 Q0 Q0))
abbrev en3 : List V → (S → R) → R := (fun l k=>unK l fun a0 l=>unK l fun a1 l=>nlK l<|k (.mk (.mk a0 a1 U U) Q0 Q0 Q0 Q0 Q0 Q0 Q0))
abbrev en4 : List V → (S → R) → R := (fun l k=>unK l fun a0 l=>unK l fun a1 l=>unK l fun a2 l=>unK l fun a3 l=>nlK l<|k (.mk (.mk a0 a1 a2 a3) Q0 Q0 Q0 Q0 Q0 Q0 Q0))
end
end Go.Ev.YthjkpfnkahfdgaaDoor
