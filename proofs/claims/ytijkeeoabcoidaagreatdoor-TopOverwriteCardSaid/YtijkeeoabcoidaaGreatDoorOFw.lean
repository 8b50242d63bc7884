/- Words of these texts. -/
import Derived.Test.YtijkeeoabcoidaaGreatDoorOEv5
import Derived.Test.YtijkeeoabcoidaaGreatDoorProg
namespace Go.Ev.YtijkeeoabcoidaaGreatDoor
open Go Go.Ev
set_option linter.unusedVariables false
noncomputable section
noncomputable abbrev PP:Program := Go.Proofs.Tryz.prog
abbrev gK (a b:V) (h:Heap) (n:K4) (k:V->Heap->K4->R):R := Az true a h n (fun k => k b h n) k
abbrev gO (a:V) (h:Heap) (n:K4) (F:(V->R)->R) (k:V->Heap->K4->R):R := Az true a h n (fun k => F fun v => k v h n) k
abbrev gA (a:V) (r:R) (k:V->R):R := Cz true a (fun k => Ac r k) k
abbrev mV (a:V) (k:V->R):R := Ac (Ab a) k
abbrev en0:List V->(S->R)->R := (fun l k=>Gc l fun a0 l=>Gc l fun a1 l=>Oz l<|k (.mk (.mk a0 a1 U U) Q0 Q0 Q0 Q0 Q0 Q0 Q0))
abbrev en1:List V->(S->R)->R := (fun l k=>Oz l<|k Ez)
abbrev en2:List V->(S->R)->R := (fun l k=>Gc l fun a0 l=>Oz l<|k (.mk (.mk a0 U U U) Q0 Q0 Q0 Q0 Q0 Q0 Q0))
abbrev en3:List V->(S->R)->R := (fun l k=>Gc l fun a0 l=>Gc l fun a1 l=>Gc l fun a2 l=>Gc l fun a3 l=>Gc l fun a4 l=>Gc l fun a5 l=>Oz l<|k (.mk (.mk a0 a1 a2 a3) (.mk a4 a5 U U) Q0 Q0 Q0 Q0 Q0 Q0))
abbrev en4:List V->(S->R)->R := (fun l k=>Gc l fun a0 l=>Gc l fun a1 l=>Gc l fun a2 l=>Gc l fun a3 l=>Gc l fun a4 l=>Oz l<|k (.mk (.mk a0 a1 a2 a3) (.mk a4 U U U) Q0 Q0 Q0 Q0 Q0 Q0))
abbrev en5:List V->(S->R)->R := (fun l k=>Gc l fun a0 l=>Gc l fun a1 l=>Gc l fun a2 l=>Oz l<|k (.mk (.mk a0 a1 a2 U) Q0 Q0 Q0 Q0 Q0 Q0 Q0))
abbrev en6:List V->(S->R)->R := (fun l k=>Gc l fun a0 l=>Gc l fun a1 l=>Gc l fun a2 l=>Gc l fun a3 l=>Oz l<|k (.mk (.mk a0 a1 a2 a3) Q0 Q0 Q0 Q0 Q0 Q0 Q0))
end
end Go.Ev.YtijkeeoabcoidaaGreatDoor
