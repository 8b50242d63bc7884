/- The table of the functions. -/
import Derived.Test.YtdoafpdjlmfpnaaF0
import Derived.KernelRfl
namespace Go.Ev.Ytdoafpdjlmfpnaa
open Go Go.Ev
set_option linter.unusedVariables false
set_option maxRecDepth 100000

variable {B : Nat}
noncomputable def ta0 : FA := .mk none none none none none none none (some x7) none none none none none none none none
theorem oa0 : OKA Go.Proofs.Try.prog rho0 B 0 ta0 := okA_mk OKO.no OKO.no OKO.no OKO.no OKO.no OKO.no OKO.no (OKO.fn e7) OKO.no OKO.no OKO.no OKO.no OKO.no OKO.no OKO.no OKO.no
noncomputable def ta1 : FA := .mk none none none none none none (some x22) (some x23) (some x24) (some x25) none (some (x27.toBr 400)) (some x28) (some x29) (some x30) (some x31)
theorem oa1 : OKA Go.Proofs.Try.prog rho0 B 16 ta1 := okA_mk OKO.no OKO.no OKO.no OKO.no OKO.no OKO.no (OKO.fn e22) (OKO.fn e23) (OKO.fn e24) (OKO.fn e25) OKO.no (OKO.brX e27 ⟨_, _, _, rfl⟩) (OKO.fn e28) (OKO.fn e29) (OKO.fn e30) (OKO.fn e31)
noncomputable def ta2 : FA := .mk (some x32) none none none none none none none none none none none none none none none
theorem oa2 : OKA Go.Proofs.Try.prog rho0 B 32 ta2 := okA_mk (OKO.fn e32) OKO.no OKO.no OKO.no OKO.no OKO.no OKO.no OKO.no OKO.no OKO.no OKO.no OKO.no OKO.no OKO.no OKO.no OKO.no
noncomputable def ta3 : FA := .mk none none none none none none none none none none none none none (some x61) (some x62) (some x63)
theorem oa3 : OKA Go.Proofs.Try.prog rho0 B 48 ta3 := okA_mk OKO.no OKO.no OKO.no OKO.no OKO.no OKO.no OKO.no OKO.no OKO.no OKO.no OKO.no OKO.no OKO.no (OKO.fn e61) (OKO.fn e62) (OKO.fn e63)
noncomputable def ta4 : FA := .mk (some x64) (some (x65.toBr 400)) (some x66) none none none none none none none none none none none none none
theorem oa4 : OKA Go.Proofs.Try.prog rho0 B 64 ta4 := okA_mk (OKO.fn e64) (OKO.brX e65 ⟨_, _, _, rfl⟩) (OKO.fn e66) OKO.no OKO.no OKO.no OKO.no OKO.no OKO.no OKO.no OKO.no OKO.no OKO.no OKO.no OKO.no OKO.no
noncomputable def ta5 : FA := .mk none none none none none none none none none none none none none none none none
theorem oa5 : OKA Go.Proofs.Try.prog rho0 B 80 ta5 := okA_mk OKO.no OKO.no OKO.no OKO.no OKO.no OKO.no OKO.no OKO.no OKO.no OKO.no OKO.no OKO.no OKO.no OKO.no OKO.no OKO.no
noncomputable def ta6 : FA := .mk (some x96) (some x97) (some x98) none none none none none none none none none none none none none
theorem oa6 : OKA Go.Proofs.Try.prog rho0 B 96 ta6 := okA_mk (OKO.fn e96) (OKO.fn e97) (OKO.fn e98) OKO.no OKO.no OKO.no OKO.no OKO.no OKO.no OKO.no OKO.no OKO.no OKO.no OKO.no OKO.no OKO.no
noncomputable def ta7 : FA := .mk none none none none none none none (some x119) none none none none none (some x125) none none
theorem oa7 : OKA Go.Proofs.Try.prog rho0 B 112 ta7 := okA_mk OKO.no OKO.no OKO.no OKO.no OKO.no OKO.no OKO.no (OKO.fn e119) OKO.no OKO.no OKO.no OKO.no OKO.no (OKO.fn e125) OKO.no OKO.no
noncomputable def ta8 : FA := .mk (some x128) (some x129) none none none none none none none none none none none none none none
theorem oa8 : OKA Go.Proofs.Try.prog rho0 B 128 ta8 := okA_mk (OKO.fn e128) (OKO.fn e129) OKO.no OKO.no OKO.no OKO.no OKO.no OKO.no OKO.no OKO.no OKO.no OKO.no OKO.no OKO.no OKO.no OKO.no
noncomputable def ta9 : FA := .mk none none none none none none none none none none none (some x155) none none none none
theorem oa9 : OKA Go.Proofs.Try.prog rho0 B 144 ta9 := okA_mk OKO.no OKO.no OKO.no OKO.no OKO.no OKO.no OKO.no OKO.no OKO.no OKO.no OKO.no (OKO.fn e155) OKO.no OKO.no OKO.no OKO.no
noncomputable def tb0 : FB := .mk ta0 ta1 ta2 ta3 ta4 ta5 ta6 ta7 ta8 ta9 noA noA noA noA noA noA
theorem ob0 : OKB Go.Proofs.Try.prog rho0 B 0 tb0 := okB_mk oa0 oa1 oa2 oa3 oa4 oa5 oa6 oa7 oa8 oa9 okA_no okA_no okA_no okA_no okA_no okA_no
noncomputable def tab : FC := .mk tb0 noB noB noB noB noB noB noB noB noB noB noB noB noB noB noB
theorem tab_ok (B : Nat) : TabOK Go.Proofs.Try.prog rho0 B tab := okC_mk ob0 okB_no okB_no okB_no okB_no okB_no okB_no okB_no okB_no okB_no okB_no okB_no okB_no okB_no okB_no
end Go.Ev.Ytdoafpdjlmfpnaa
