/- Words of these texts. -/
import Derived.Test.YtdgefeadbcbglaaDoorMEv5
import Derived.Test.YtdgefeadbcbglaaDoorProg
namespace Go.Ev.YtdgefeadbcbglaaDoor
open Go Go.Ev
set_option linter.unusedVariables false
noncomputable section
noncomputable abbrev PP:Program := Go.Proofs.Tryd.prog
abbrev gK (a b:V) (h:Heap) (n:K4) (k:V->Heap->K4->R):R := Ba true a h n (fun k => k b h n) k
abbrev gO (a:V) (h:Heap) (n:K4) (F:(V->R)->R) (k:V->Heap->K4->R):R := Ba true a h n (fun k => F fun v => k v h n) k
abbrev gA (a:V) (r:R) (k:V->R):R := JL true a (fun k => AB r k) k
abbrev mV (a:V) (k:V->R):R := AB (Ax a) k
abbrev en1:List V->(S->R)->R := (fun l k=>Nz l fun a0 l=>Nz l fun a1 l=>T8 l<|k (.mk (.mk a0 a1 U U) Q0 Q0 Q0 Q0 Q0 Q0 Q0))
abbrev en2:List V->(S->R)->R := (fun l k=>T8 l<|k Fi)
abbrev en3:List V->(S->R)->R := (fun l k=>Nz l fun a0 l=>T8 l<|k (.mk (.mk a0 U U U) Q0 Q0 Q0 Q0 Q0 Q0 Q0))
abbrev en4:List V->(S->R)->R := (fun l k=>Nz l fun a0 l=>Nz l fun a1 l=>Nz l fun a2 l=>Nz l fun a3 l=>T8 l<|k (.mk (.mk a0 a1 a2 a3) Q0 Q0 Q0 Q0 Q0 Q0 Q0))
end
end Go.Ev.YtdgefeadbcbglaaDoor
