/- The table of the functions. -/
import Derived.Test.YtbiegknmjedodaaF0
import Derived.Test.YtbiegknmjedodaaF1
import Derived.KernelRfl
namespace Go.Ev.Ytbiegknmjedodaa
open Go Go.Ev
set_option linter.unusedVariables false
set_option maxRecDepth 100000

theorem bare130 : Bare Go.Proofs.Try.prog 130 Extern.BytealgIndexByte.indexByte := ⟨Go.Proofs.Try.f130, Go.Proofs.Try.func130, by kernel_rfl, by kernel_rfl, by kernel_rfl, by kernel_rfl⟩
variable {B : Nat}
noncomputable def ta0 : FA := .mk none none none none (some x4) (some x5) none none none none none none none none none (some x15)
theorem oa0 : OKA Go.Proofs.Try.prog rho0 B 0 ta0 := okA_mk OKO.no OKO.no OKO.no OKO.no (OKO.fn e4) (OKO.fn e5) OKO.no OKO.no OKO.no OKO.no OKO.no OKO.no OKO.no OKO.no OKO.no (OKO.fn e15)
noncomputable def ta1 : FA := .mk (some x16) (some x17) (some x18) (some x19) none (some x21) none (some x23) none none none none none none none none
theorem oa1 : OKA Go.Proofs.Try.prog rho0 B 16 ta1 := okA_mk (OKO.fn e16) (OKO.fn e17) (OKO.fn e18) (OKO.fn e19) OKO.no (OKO.fn e21) OKO.no (OKO.fn e23) OKO.no OKO.no OKO.no OKO.no OKO.no OKO.no OKO.no OKO.no
noncomputable def ta2 : FA := .mk none none none none none none none none none none none none none (some x45) (some x46) (some x47)
theorem oa2 : OKA Go.Proofs.Try.prog rho0 B 32 ta2 := okA_mk OKO.no OKO.no OKO.no OKO.no OKO.no OKO.no OKO.no OKO.no OKO.no OKO.no OKO.no OKO.no OKO.no (OKO.fn e45) (OKO.fn e46) (OKO.fn e47)
noncomputable def ta3 : FA := .mk (some x48) (some x49) (some x50) (some x51) (some x52) (some x53) (some x54) (some x55) (some x56) (some x57) none none none none none none
theorem oa3 : OKA Go.Proofs.Try.prog rho0 B 48 ta3 := okA_mk (OKO.fn e48) (OKO.fn e49) (OKO.fn e50) (OKO.fn e51) (OKO.fn e52) (OKO.fn e53) (OKO.fn e54) (OKO.fn e55) (OKO.fn e56) (OKO.fn e57) OKO.no OKO.no OKO.no OKO.no OKO.no OKO.no
noncomputable def ta4 : FA := .mk none none none none (some x68) (some x69) (some x70) (some x71) (some x72) (some x73) (some x74) (some x75) (some x76) (some x77) (some x78) (some x79)
theorem oa4 : OKA Go.Proofs.Try.prog rho0 B 64 ta4 := okA_mk OKO.no OKO.no OKO.no OKO.no (OKO.fn e68) (OKO.fn e69) (OKO.fn e70) (OKO.fn e71) (OKO.fn e72) (OKO.fn e73) (OKO.fn e74) (OKO.fn e75) (OKO.fn e76) (OKO.fn e77) (OKO.fn e78) (OKO.fn e79)
noncomputable def ta5 : FA := .mk none none none none none none (some x86) (some x87) (some x88) (some x89) (some x90) (some x91) none none none none
theorem oa5 : OKA Go.Proofs.Try.prog rho0 B 80 ta5 := okA_mk OKO.no OKO.no OKO.no OKO.no OKO.no OKO.no (OKO.fn e86) (OKO.fn e87) (OKO.fn e88) (OKO.fn e89) (OKO.fn e90) (OKO.fn e91) OKO.no OKO.no OKO.no OKO.no
noncomputable def ta6 : FA := .mk none none none none none none none none none (some x105) (some x106) none none none none none
theorem oa6 : OKA Go.Proofs.Try.prog rho0 B 96 ta6 := okA_mk OKO.no OKO.no OKO.no OKO.no OKO.no OKO.no OKO.no OKO.no OKO.no (OKO.fn e105) (OKO.fn e106) OKO.no OKO.no OKO.no OKO.no OKO.no
noncomputable def ta7 : FA := .mk none none none none none none none none none (some x121) (some x122) none (some x124) (some x125) none none
theorem oa7 : OKA Go.Proofs.Try.prog rho0 B 112 ta7 := okA_mk OKO.no OKO.no OKO.no OKO.no OKO.no OKO.no OKO.no OKO.no OKO.no (OKO.fn e121) (OKO.fn e122) OKO.no (OKO.fn e124) (OKO.fn e125) OKO.no OKO.no
noncomputable def ta8 : FA := .mk none none (some (.prim pIndexByteString)) (some x131) none none none none none none none none none none none none
theorem oa8 : OKA Go.Proofs.Try.prog rho0 B 128 ta8 := okA_mk OKO.no OKO.no (OKO.pr (indexByteString_ok bare130)) (OKO.fn e131) OKO.no OKO.no OKO.no OKO.no OKO.no OKO.no OKO.no OKO.no OKO.no OKO.no OKO.no OKO.no
noncomputable def tb0 : FB := .mk ta0 ta1 ta2 ta3 ta4 ta5 ta6 ta7 ta8 noA noA noA noA noA noA noA
theorem ob0 : OKB Go.Proofs.Try.prog rho0 B 0 tb0 := okB_mk oa0 oa1 oa2 oa3 oa4 oa5 oa6 oa7 oa8 okA_no okA_no okA_no okA_no okA_no okA_no okA_no
noncomputable def tab : FC := .mk tb0 noB noB noB noB noB noB noB noB noB noB noB noB noB noB noB
theorem tab_ok (B : Nat) : TabOK Go.Proofs.Try.prog rho0 B tab := okC_mk ob0 okB_no okB_no okB_no okB_no okB_no okB_no okB_no okB_no okB_no okB_no okB_no okB_no okB_no okB_no
end Go.Ev.Ytbiegknmjedodaa
