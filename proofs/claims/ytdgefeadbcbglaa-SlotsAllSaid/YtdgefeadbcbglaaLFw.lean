/- Words of these texts. -/
import Derived.Test.YtdgefeadbcbglaaLEv5
import Derived.Test.YtdgefeadbcbglaaProg
namespace Go.Ev.Ytdgefeadbcbglaa
open Go Go.Ev
set_option linter.unusedVariables false
noncomputable section
noncomputable abbrev PP:Program := Go.Proofs.Try.prog
abbrev gK (a b:V) (h:Heap) (n:K4) (k:V->Heap->K4->R):R := Cm true a h n (fun k => k b h n) k
abbrev gO (a:V) (h:Heap) (n:K4) (F:(V->R)->R) (k:V->Heap->K4->R):R := Cm true a h n (fun k => F fun v => k v h n) k
abbrev gA (a:V) (r:R) (k:V->R):R := gdV true a (fun k => Bl r k) k
abbrev mV (a:V) (k:V->R):R := Bl (AW a) k
abbrev en0:List V->(S->R)->R := (fun l k=>LY l fun a0 l=>LY l fun a1 l=>LY l fun a2 l=>Tb l<|k (.mk (.mk a0 a1 a2 U) Q0 Q0 Q0 Q0 Q0 Q0 Q0))
abbrev en3:List V->(S->R)->R := (fun l k=>LY l fun a0 l=>Tb l<|k (.mk (.mk a0 U U U) Q0 Q0 Q0 Q0 Q0 Q0 Q0))
abbrev en1:List V->(S->R)->R := (fun l k=>LY l fun a0 l=>LY l fun a1 l=>Tb l<|k (.mk (.mk a0 a1 U U) Q0 Q0 Q0 Q0 Q0 Q0 Q0))
abbrev en4:List V->(S->R)->R := (fun l k=>LY l fun a0 l=>LY l fun a1 l=>LY l fun a2 l=>LY l fun a3 l=>Tb l<|k (.mk (.mk a0 a1 a2 a3) Q0 Q0 Q0 Q0 Q0 Q0 Q0))
abbrev en2:List V->(S->R)->R := (fun l k=>Tb l<|k F6)
end
end Go.Ev.Ytdgefeadbcbglaa
