/- The table of the functions. -/
import Derived.Test.YtdoafpdjlmfpnaaF0
import Derived.KernelRfl
namespace Go.Ev.Ytdoafpdjlmfpnaa
open Go Go.Ev
set_option linter.unusedVariables false
set_option maxRecDepth 100000

theorem bare103 : Bare Go.Proofs.Try.prog 103 Extern.MapsClone.clone := ⟨Go.Proofs.Try.f103, Go.Proofs.Try.func103, by kernel_rfl, by kernel_rfl, by kernel_rfl, by kernel_rfl⟩
noncomputable abbrev rhoS : Env := envAp Go.Proofs.Try.prog [130]
theorem oneS : OneSym rhoS := oneAp
variable {B : Nat}
noncomputable def ta0 : FA := .mk none none none none none none none none none (some x9) none none none none none none
theorem oa0 : OKA Go.Proofs.Try.prog rhoS B 0 ta0 := okA_mk OKO.no OKO.no OKO.no OKO.no OKO.no OKO.no OKO.no OKO.no OKO.no (OKO.fn e9) OKO.no OKO.no OKO.no OKO.no OKO.no OKO.no
noncomputable def ta1 : FA := .mk none none none none none none none none none none none none none none none none
theorem oa1 : OKA Go.Proofs.Try.prog rhoS B 16 ta1 := okA_mk OKO.no OKO.no OKO.no OKO.no OKO.no OKO.no OKO.no OKO.no OKO.no OKO.no OKO.no OKO.no OKO.no OKO.no OKO.no OKO.no
noncomputable def ta2 : FA := .mk none (some x33) (some x34) (some x35) (some x36) (some x37) (some x38) (some x39) (some x40) (some x41) none (some x43) (some x44) (some x45) (some x46) none
theorem oa2 : OKA Go.Proofs.Try.prog rhoS B 32 ta2 := okA_mk OKO.no (OKO.fn e33) (OKO.fn e34) (OKO.fn e35) (OKO.fn e36) (OKO.fn e37) (OKO.fn e38) (OKO.fn e39) (OKO.fn e40) (OKO.fn e41) OKO.no (OKO.fn e43) (OKO.fn e44) (OKO.fn e45) (OKO.fn e46) OKO.no
noncomputable def ta3 : FA := .mk (some x48) none none none none none none none none none none none none none none (some x63)
theorem oa3 : OKA Go.Proofs.Try.prog rhoS B 48 ta3 := okA_mk (OKO.fn e48) OKO.no OKO.no OKO.no OKO.no OKO.no OKO.no OKO.no OKO.no OKO.no OKO.no OKO.no OKO.no OKO.no OKO.no (OKO.fn e63)
noncomputable def ta4 : FA := .mk none none none (some x67) (some x68) (some x69) (some x70) (some x71) (some x72) (some x73) none (some x75) (some (.prim pClone)) (some x77) (some (x78.toBr 400)) (some x79)
theorem oa4 : OKA Go.Proofs.Try.prog rhoS B 64 ta4 := okA_mk OKO.no OKO.no OKO.no (OKO.fn e67) (OKO.fn e68) (OKO.fn e69) (OKO.fn e70) (OKO.fn e71) (OKO.fn e72) (OKO.fn e73) OKO.no (OKO.fn e75) (OKO.pr (clone_ok (g := 103) (by kernel_rfl) bare103)) (OKO.fn e77) (OKO.brX e78 ⟨_, _, _, rfl⟩) (OKO.fn e79)
noncomputable def ta5 : FA := .mk none none none (some x83) none none none none none none none none none none none none
theorem oa5 : OKA Go.Proofs.Try.prog rhoS B 80 ta5 := okA_mk OKO.no OKO.no OKO.no (OKO.fn e83) OKO.no OKO.no OKO.no OKO.no OKO.no OKO.no OKO.no OKO.no OKO.no OKO.no OKO.no OKO.no
noncomputable def ta6 : FA := .mk none (some x97) (some x98) (some x99) (some x100) (some x101) (some x102) none (some x104) (some x105) none none none none none none
theorem oa6 : OKA Go.Proofs.Try.prog rhoS B 96 ta6 := okA_mk OKO.no (OKO.fn e97) (OKO.fn e98) (OKO.fn e99) (OKO.fn e100) (OKO.fn e101) (OKO.fn e102) OKO.no (OKO.fn e104) (OKO.fn e105) OKO.no OKO.no OKO.no OKO.no OKO.no OKO.no
noncomputable def ta7 : FA := .mk none none none none none none none (some x119) none none none none none (some x125) none none
theorem oa7 : OKA Go.Proofs.Try.prog rhoS B 112 ta7 := okA_mk OKO.no OKO.no OKO.no OKO.no OKO.no OKO.no OKO.no (OKO.fn e119) OKO.no OKO.no OKO.no OKO.no OKO.no (OKO.fn e125) OKO.no OKO.no
noncomputable def ta8 : FA := .mk (some x128) (some x129) (some x130) none none none none none none none none none none none none none
theorem oa8 : OKA Go.Proofs.Try.prog rhoS B 128 ta8 := okA_mk (OKO.fn e128) (OKO.fn e129) (OKO.apE e130) OKO.no OKO.no OKO.no OKO.no OKO.no OKO.no OKO.no OKO.no OKO.no OKO.no OKO.no OKO.no OKO.no
noncomputable def ta9 : FA := .mk none none none none none none none none none none none (some x155) none none none none
theorem oa9 : OKA Go.Proofs.Try.prog rhoS B 144 ta9 := okA_mk OKO.no OKO.no OKO.no OKO.no OKO.no OKO.no OKO.no OKO.no OKO.no OKO.no OKO.no (OKO.fn e155) OKO.no OKO.no OKO.no OKO.no
noncomputable def tb0 : FB := .mk ta0 ta1 ta2 ta3 ta4 ta5 ta6 ta7 ta8 ta9 noA noA noA noA noA noA
theorem ob0 : OKB Go.Proofs.Try.prog rhoS B 0 tb0 := okB_mk oa0 oa1 oa2 oa3 oa4 oa5 oa6 oa7 oa8 oa9 okA_no okA_no okA_no okA_no okA_no okA_no
noncomputable def tab : FC := .mk tb0 noB noB noB noB noB noB noB noB noB noB noB noB noB noB noB
theorem tab_ok (B : Nat) : TabOK Go.Proofs.Try.prog rhoS B tab := .mk (okC_mk ob0 okB_no okB_no okB_no okB_no okB_no okB_no okB_no okB_no okB_no okB_no okB_no okB_no okB_no okB_no) (ha_cons ⟨x130, by kernel_rfl, e130⟩ ha_nil)
end Go.Ev.Ytdoafpdjlmfpnaa
