/- The table of the functions. -/
import Derived.Test.YtfkooacjpegidaaF0
import Derived.KernelRfl
namespace Go.Ev.Ytfkooacjpegidaa
open Go Go.Ev
set_option linter.unusedVariables false
set_option maxRecDepth 100000

theorem bare40 : Bare Go.Proofs.Try.prog 40 Extern.MapsClone.clone := ⟨Go.Proofs.Try.f40, Go.Proofs.Try.func40, by kernel_rfl, by kernel_rfl, by kernel_rfl, by kernel_rfl⟩
theorem bare109 : Bare Go.Proofs.Try.prog 109 Extern.BytealgIndexByte.indexByte := ⟨Go.Proofs.Try.f109, Go.Proofs.Try.func109, by kernel_rfl, by kernel_rfl, by kernel_rfl, by kernel_rfl⟩
noncomputable abbrev rhoS : Env := envAp Go.Proofs.Try.prog []
theorem oneS : OneSym rhoS := oneAp
variable {B : Nat}
noncomputable def ta0 : FA := .mk none none none none (some x4) none none none none none none none none none (some x14) (some x15)
theorem oa0 : OKA Go.Proofs.Try.prog rhoS B 0 ta0 := okA_mk OKO.no OKO.no OKO.no OKO.no (OKO.fn e4) OKO.no OKO.no OKO.no OKO.no OKO.no OKO.no OKO.no OKO.no OKO.no (OKO.fn e14) (OKO.fn e15)
noncomputable def ta1 : FA := .mk (some x16) (some x17) (some x18) none none none none none none none none none none none none none
theorem oa1 : OKA Go.Proofs.Try.prog rhoS B 16 ta1 := okA_mk (OKO.fn e16) (OKO.fn e17) (OKO.fn e18) OKO.no OKO.no OKO.no OKO.no OKO.no OKO.no OKO.no OKO.no OKO.no OKO.no OKO.no OKO.no OKO.no
noncomputable def ta2 : FA := .mk none none none (some x35) (some x36) (some x37) (some x38) none none none none none none none none (some x47)
theorem oa2 : OKA Go.Proofs.Try.prog rhoS B 32 ta2 := okA_mk OKO.no OKO.no OKO.no (OKO.fn e35) (OKO.fn e36) (OKO.fn e37) (OKO.fn e38) OKO.no OKO.no OKO.no OKO.no OKO.no OKO.no OKO.no OKO.no (OKO.fn e47)
noncomputable def ta3 : FA := .mk (some x48) (some x49) (some x50) (some x51) (some x52) (some x53) (some x54) (some x55) (some x56) none none none none none (some x62) (some x63)
theorem oa3 : OKA Go.Proofs.Try.prog rhoS B 48 ta3 := okA_mk (OKO.fn e48) (OKO.fn e49) (OKO.fn e50) (OKO.fn e51) (OKO.fn e52) (OKO.fn e53) (OKO.fn e54) (OKO.fn e55) (OKO.fn e56) OKO.no OKO.no OKO.no OKO.no OKO.no (OKO.fn e62) (OKO.fn e63)
noncomputable def ta4 : FA := .mk (some x64) (some x65) (some x66) (some x67) none none none none none none none none none none none none
theorem oa4 : OKA Go.Proofs.Try.prog rhoS B 64 ta4 := okA_mk (OKO.fn e64) (OKO.fn e65) (OKO.fn e66) (OKO.fn e67) OKO.no OKO.no OKO.no OKO.no OKO.no OKO.no OKO.no OKO.no OKO.no OKO.no OKO.no OKO.no
noncomputable def ta5 : FA := .mk none none none none none none none none (some x88) (some x89) (some x90) (some x91) none none none none
theorem oa5 : OKA Go.Proofs.Try.prog rhoS B 80 ta5 := okA_mk OKO.no OKO.no OKO.no OKO.no OKO.no OKO.no OKO.no OKO.no (OKO.fn e88) (OKO.fn e89) (OKO.fn e90) (OKO.fn e91) OKO.no OKO.no OKO.no OKO.no
noncomputable def ta6 : FA := .mk none none none none none none (some x102) none none (some x105) (some (.prim (noFn "function 106"))) (some x107) (some x108) (some (.prim pIndexByteString)) (some x110) none
theorem oa6 : OKA Go.Proofs.Try.prog rhoS B 96 ta6 := okA_mk OKO.no OKO.no OKO.no OKO.no OKO.no OKO.no (OKO.fn e102) OKO.no OKO.no (OKO.fn e105) (OKO.noP _) (OKO.fn e107) (OKO.fn e108) (OKO.pr (@indexByteString_ok Go.Proofs.Try.prog rhoS B 109 bare109)) (OKO.fn e110) OKO.no
noncomputable def tb0 : FB := .mk ta0 ta1 ta2 ta3 ta4 ta5 ta6 noA noA noA noA noA noA noA noA noA
theorem ob0 : OKB Go.Proofs.Try.prog rhoS B 0 tb0 := okB_mk (oa0) (oa1) (oa2) (oa3) (oa4) (oa5) (oa6) okA_no okA_no okA_no okA_no okA_no okA_no okA_no okA_no okA_no
noncomputable def tab : FC := .mk tb0 noB noB noB noB noB noB noB noB noB noB noB noB noB noB noB
theorem tab_ok (B : Nat) : TabOK Go.Proofs.Try.prog rhoS B tab := .mk (okC_mk (ob0) okB_no okB_no okB_no okB_no okB_no okB_no okB_no okB_no okB_no okB_no okB_no okB_no okB_no okB_no) ha_nil
end Go.Ev.Ytfkooacjpegidaa
