/- The table of the functions. -/
import Derived.Test.YtppjipfollgbcaaF0
import Derived.Test.YtppjipfollgbcaaEv5
import Derived.Test.YtppjipfollgbcaaK
import Derived.KernelRfl
namespace Go.Ev.Ytppjipfollgbcaa
open Go Go.Ev
set_option linter.unusedVariables false
set_option maxRecDepth 100000

noncomputable abbrev rhoS : Env := envAp Go.Proofs.Try.prog [42]
theorem oneS : OneSym rhoS := oneAp
variable {B : Nat}
namespace Z
noncomputable def ta0 : FA := .mk none none none none (some x4) none none none none (some x9) (some x10) (some x11) (some x12) (some x13) (some x14) none
theorem oa0 : OKA PP rhoS B 0 ta0 := okA_mk OKO.no OKO.no OKO.no OKO.no (OKO.fn e4) OKO.no OKO.no OKO.no OKO.no (OKO.fn e9) (OKO.fn e10) (OKO.fn e11) (OKO.fn e12) (OKO.fn e13) (OKO.fn e14) OKO.no
noncomputable def ta1 : FA := .mk none none none none none none none none (some x24) (some x25) (some x26) (some x27) none none none none
theorem oa1 : OKA PP rhoS B 16 ta1 := okA_mk OKO.no OKO.no OKO.no OKO.no OKO.no OKO.no OKO.no OKO.no (OKO.fn e24) (OKO.fn e25) (OKO.fn e26) (OKO.fn e27) OKO.no OKO.no OKO.no OKO.no
noncomputable def ta2 : FA := .mk none none none none (some x36) (some (.prim (pSortKN 27))) (some x38) none none none (some x42) none none none none none
theorem oa2 : OKA PP rhoS B 32 ta2 := okA_mk OKO.no OKO.no OKO.no OKO.no (OKO.fn e36) (OKO.pr (@sortKN_ok Go.Proofs.Try.prog rhoS B 37 27 Go.Proofs.Try.f37 Go.Proofs.Try.f27 59 38 3 Go.Proofs.Try.func37 (by kernel_rfl) (by kernel_rfl) sortf37 sortn37 Go.Proofs.Try.func27 (by kernel_rfl) (by kernel_rfl) cmp27 Go.Proofs.Try.underlying59 (by kernel_rfl))) (OKO.fn e38) OKO.no OKO.no OKO.no (OKO.apE e42) OKO.no OKO.no OKO.no OKO.no OKO.no
noncomputable def tb0 : FB := .mk ta0 ta1 ta2 noA noA noA noA noA noA noA noA noA noA noA noA noA
theorem ob0 : OKB PP rhoS B 0 tb0 := okB_mk (oa0) (oa1) (oa2) okA_no okA_no okA_no okA_no okA_no okA_no okA_no okA_no okA_no okA_no okA_no okA_no okA_no
noncomputable def tab : FC := .mk tb0 noB noB noB noB noB noB noB noB noB noB noB noB noB noB noB
theorem tab_ok (B : Nat) : TabOK Go.Proofs.Try.prog rhoS B tab := .mk (okC_mk (ob0) okB_no okB_no okB_no okB_no okB_no okB_no okB_no okB_no okB_no okB_no okB_no okB_no okB_no okB_no) (ha_cons ⟨x42, by kernel_rfl, e42⟩ ha_nil)
end Z
end Go.Ev.Ytppjipfollgbcaa
