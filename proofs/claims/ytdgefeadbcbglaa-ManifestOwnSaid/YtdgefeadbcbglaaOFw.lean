/- Words of these texts. -/
import Derived.Test.YtdgefeadbcbglaaOEv5
import Derived.Test.YtdgefeadbcbglaaProg
namespace Go.Ev.Ytdgefeadbcbglaa
open Go Go.Ev
set_option linter.unusedVariables false
noncomputable section
noncomputable abbrev PP:Program := Go.Proofs.Try.prog
abbrev gK (a b:V) (h:Heap) (n:K4) (k:V->Heap->K4->R):R := Bd true a h n (fun k => k b h n) k
abbrev gO (a:V) (h:Heap) (n:K4) (F:(V->R)->R) (k:V->Heap->K4->R):R := Bd true a h n (fun k => F fun v => k v h n) k
abbrev gA (a:V) (r:R) (k:V->R):R := TJ true a (fun k => AX r k) k
abbrev mV (a:V) (k:V->R):R := AX (AI a) k
abbrev en3:List V->(S->R)->R := (fun l k=>JW l fun a0 l=>Ss l<|k (.mk (.mk a0 U U U) Q0 Q0 Q0 Q0 Q0 Q0 Q0))
abbrev en1:List V->(S->R)->R := (fun l k=>JW l fun a0 l=>JW l fun a1 l=>Ss l<|k (.mk (.mk a0 a1 U U) Q0 Q0 Q0 Q0 Q0 Q0 Q0))
abbrev en4:List V->(S->R)->R := (fun l k=>JW l fun a0 l=>JW l fun a1 l=>JW l fun a2 l=>JW l fun a3 l=>Ss l<|k (.mk (.mk a0 a1 a2 a3) Q0 Q0 Q0 Q0 Q0 Q0 Q0))
abbrev en0:List V->(S->R)->R := (fun l k=>JW l fun a0 l=>JW l fun a1 l=>JW l fun a2 l=>Ss l<|k (.mk (.mk a0 a1 a2 U) Q0 Q0 Q0 Q0 Q0 Q0 Q0))
abbrev en2:List V->(S->R)->R := (fun l k=>Ss l<|k Fd)
abbrev en5:List V->(S->R)->R := (fun l k=>JW l fun a0 l=>JW l fun a1 l=>JW l fun a2 l=>JW l fun a3 l=>JW l fun a4 l=>Ss l<|k (.mk (.mk a0 a1 a2 a3) (.mk a4 U U U) Q0 Q0 Q0 Q0 Q0 Q0))
end
end Go.Ev.Ytdgefeadbcbglaa
