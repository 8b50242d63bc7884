/- Words of these texts. -/
import Derived.Test.YtdgefeadbcbglaaAEv6
import Derived.Test.YtdgefeadbcbglaaProg
namespace Go.Ev.Ytdgefeadbcbglaa
open Go Go.Ev
set_option linter.unusedVariables false
noncomputable section
noncomputable abbrev PP:Program := Go.Proofs.Try.prog
abbrev gK (a b:V) (h:Heap) (n:K4) (k:V->Heap->K4->R):R := Ur true a h n (fun k => k b h n) k
abbrev gO (a:V) (h:Heap) (n:K4) (F:(V->R)->R) (k:V->Heap->K4->R):R := Ur true a h n (fun k => F fun v => k v h n) k
abbrev gA (a:V) (r:R) (k:V->R):R := FJ true a (fun k => AM r k) k
abbrev mV (a:V) (k:V->R):R := AM (AD a) k
abbrev en3:List V->(S->R)->R := (fun l k=>EB l fun a0 l=>J3 l<|k (.mk (.mk a0 U U U) Q0 Q0 Q0 Q0 Q0 Q0 Q0))
abbrev en2:List V->(S->R)->R := (fun l k=>J3 l<|k Fi)
abbrev en1:List V->(S->R)->R := (fun l k=>EB l fun a0 l=>EB l fun a1 l=>J3 l<|k (.mk (.mk a0 a1 U U) Q0 Q0 Q0 Q0 Q0 Q0 Q0))
abbrev en0:List V->(S->R)->R := (fun l k=>EB l fun a0 l=>EB l fun a1 l=>EB l fun a2 l=>J3 l<|k (.mk (.mk a0 a1 a2 U) Q0 Q0 Q0 Q0 Q0 Q0 Q0))
end
end Go.Ev.Ytdgefeadbcbglaa
