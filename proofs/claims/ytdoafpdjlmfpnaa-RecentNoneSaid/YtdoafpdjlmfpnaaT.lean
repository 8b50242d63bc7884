/- The table of the functions. -/
import Derived.Test.YtdoafpdjlmfpnaaF0
import Derived.KernelRfl
namespace Go.Ev.Ytdoafpdjlmfpnaa
open Go Go.Ev
set_option linter.unusedVariables false
set_option maxRecDepth 100000

noncomputable abbrev rhoS : Env := envAp Go.Proofs.Try.prog [117]
theorem oneS : OneSym rhoS := oneAp
variable {B : Nat}
noncomputable def ta0 : FA := .mk none none none (some x3) none none none none none none none none none none none (some x15)
theorem oa0 : OKA Go.Proofs.Try.prog rhoS B 0 ta0 := okA_mk OKO.no OKO.no OKO.no (OKO.fn e3) OKO.no OKO.no OKO.no OKO.no OKO.no OKO.no OKO.no OKO.no OKO.no OKO.no OKO.no (OKO.fn e15)
noncomputable def ta1 : FA := .mk (some x16) (some x17) (some x18) (some x19) (some x20) (some x21) none none none none none none none none none none
theorem oa1 : OKA Go.Proofs.Try.prog rhoS B 16 ta1 := okA_mk (OKO.fn e16) (OKO.fn e17) (OKO.fn e18) (OKO.fn e19) (OKO.fn e20) (OKO.fn e21) OKO.no OKO.no OKO.no OKO.no OKO.no OKO.no OKO.no OKO.no OKO.no OKO.no
noncomputable def ta2 : FA := .mk none none none none none none none none none none none none none none none none
theorem oa2 : OKA Go.Proofs.Try.prog rhoS B 32 ta2 := okA_mk OKO.no OKO.no OKO.no OKO.no OKO.no OKO.no OKO.no OKO.no OKO.no OKO.no OKO.no OKO.no OKO.no OKO.no OKO.no OKO.no
noncomputable def ta3 : FA := .mk none none none none none none none none none none (some (x58.toBr 400)) (some x59) (some x60) none none none
theorem oa3 : OKA Go.Proofs.Try.prog rhoS B 48 ta3 := okA_mk OKO.no OKO.no OKO.no OKO.no OKO.no OKO.no OKO.no OKO.no OKO.no OKO.no (OKO.brX e58 ⟨_, _, _, rfl⟩) (OKO.fn e59) (OKO.fn e60) OKO.no OKO.no OKO.no
noncomputable def ta4 : FA := .mk none none none none none none none none none none none none none none none none
theorem oa4 : OKA Go.Proofs.Try.prog rhoS B 64 ta4 := okA_mk OKO.no OKO.no OKO.no OKO.no OKO.no OKO.no OKO.no OKO.no OKO.no OKO.no OKO.no OKO.no OKO.no OKO.no OKO.no OKO.no
noncomputable def ta5 : FA := .mk none none none none none none none none none none none none none (some x93) (some x94) (some x95)
theorem oa5 : OKA Go.Proofs.Try.prog rhoS B 80 ta5 := okA_mk OKO.no OKO.no OKO.no OKO.no OKO.no OKO.no OKO.no OKO.no OKO.no OKO.no OKO.no OKO.no OKO.no (OKO.fn e93) (OKO.fn e94) (OKO.fn e95)
noncomputable def ta6 : FA := .mk none none (some x98) none none none none none none none none none none none none none
theorem oa6 : OKA Go.Proofs.Try.prog rhoS B 96 ta6 := okA_mk OKO.no OKO.no (OKO.fn e98) OKO.no OKO.no OKO.no OKO.no OKO.no OKO.no OKO.no OKO.no OKO.no OKO.no OKO.no OKO.no OKO.no
noncomputable def ta7 : FA := .mk none none none none none (some x117) (some x118) none none none none none none none none none
theorem oa7 : OKA Go.Proofs.Try.prog rhoS B 112 ta7 := okA_mk OKO.no OKO.no OKO.no OKO.no OKO.no (OKO.apE e117) (OKO.fn e118) OKO.no OKO.no OKO.no OKO.no OKO.no OKO.no OKO.no OKO.no OKO.no
noncomputable def ta8 : FA := .mk (some x128) (some x129) none none none none none none none none none none none none (some x142) none
theorem oa8 : OKA Go.Proofs.Try.prog rhoS B 128 ta8 := okA_mk (OKO.fn e128) (OKO.fn e129) OKO.no OKO.no OKO.no OKO.no OKO.no OKO.no OKO.no OKO.no OKO.no OKO.no OKO.no OKO.no (OKO.fn e142) OKO.no
noncomputable def tb0 : FB := .mk ta0 ta1 ta2 ta3 ta4 ta5 ta6 ta7 ta8 noA noA noA noA noA noA noA
theorem ob0 : OKB Go.Proofs.Try.prog rhoS B 0 tb0 := okB_mk oa0 oa1 oa2 oa3 oa4 oa5 oa6 oa7 oa8 okA_no okA_no okA_no okA_no okA_no okA_no okA_no
noncomputable def tab : FC := .mk tb0 noB noB noB noB noB noB noB noB noB noB noB noB noB noB noB
theorem tab_ok (B : Nat) : TabOK Go.Proofs.Try.prog rhoS B tab := .mk (okC_mk ob0 okB_no okB_no okB_no okB_no okB_no okB_no okB_no okB_no okB_no okB_no okB_no okB_no okB_no okB_no) (ha_cons ⟨x117, by kernel_rfl, e117⟩ ha_nil)
end Go.Ev.Ytdoafpdjlmfpnaa
