/- Words of these texts. -/
import Derived.Test.YtdgefeadbcbglaaDoorBEv5
import Derived.Test.YtdgefeadbcbglaaDoorProg
namespace Go.Ev.YtdgefeadbcbglaaDoor
open Go Go.Ev
set_option linter.unusedVariables false
noncomputable section
noncomputable abbrev PP:Program := Go.Proofs.Tryd.prog
abbrev gK (a b:V) (h:Heap) (n:K4) (k:V->Heap->K4->R):R := Cc true a h n (fun k => k b h n) k
abbrev gO (a:V) (h:Heap) (n:K4) (F:(V->R)->R) (k:V->Heap->K4->R):R := Cc true a h n (fun k => F fun v => k v h n) k
abbrev gA (a:V) (r:R) (k:V->R):R := Km true a (fun k => AE r k) k
abbrev mV (a:V) (k:V->R):R := AE (AD a) k
abbrev en1:List V->(S->R)->R := (fun l k=>K0 l fun a0 l=>K0 l fun a1 l=>RP l<|k (.mk (.mk a0 a1 U U) Q0 Q0 Q0 Q0 Q0 Q0 Q0))
abbrev en2:List V->(S->R)->R := (fun l k=>RP l<|k Fj)
abbrev en3:List V->(S->R)->R := (fun l k=>K0 l fun a0 l=>RP l<|k (.mk (.mk a0 U U U) Q0 Q0 Q0 Q0 Q0 Q0 Q0))
abbrev en0:List V->(S->R)->R := (fun l k=>K0 l fun a0 l=>K0 l fun a1 l=>K0 l fun a2 l=>RP l<|k (.mk (.mk a0 a1 a2 U) Q0 Q0 Q0 Q0 Q0 Q0 Q0))
abbrev en4:List V->(S->R)->R := (fun l k=>K0 l fun a0 l=>K0 l fun a1 l=>K0 l fun a2 l=>K0 l fun a3 l=>RP l<|k (.mk (.mk a0 a1 a2 a3) Q0 Q0 Q0 Q0 Q0 Q0 Q0))
abbrev en5:List V->(S->R)->R := (fun l k=>K0 l fun a0 l=>K0 l fun a1 l=>K0 l fun a2 l=>K0 l fun a3 l=>K0 l fun a4 l=>RP l<|k (.mk (.mk a0 a1 a2 a3) (.mk a4 U U U) Q0 Q0 Q0 Q0 Q0 Q0))
end
end Go.Ev.YtdgefeadbcbglaaDoor
