/- The table of the functions. -/
import Derived.Test.YtdeehihoficcfaaDoorF0
import Derived.Test.YtdeehihoficcfaaDoorF1
import Derived.KernelRfl
namespace Go.Ev.YtdeehihoficcfaaDoor
open Go Go.Ev
set_option linter.unusedVariables false
set_option maxRecDepth 100000

theorem bare58 : Bare Go.Proofs.Tryd.prog 58 Extern.MapsClone.clone := ⟨Go.Proofs.Tryd.f58, Go.Proofs.Tryd.func58, by kernel_rfl, by kernel_rfl, by kernel_rfl, by kernel_rfl⟩
theorem bare101 : Bare Go.Proofs.Tryd.prog 101 Extern.BytealgCount.count := ⟨Go.Proofs.Tryd.f101, Go.Proofs.Tryd.func101, by kernel_rfl, by kernel_rfl, by kernel_rfl, by kernel_rfl⟩
theorem bare102 : Bare Go.Proofs.Tryd.prog 102 Extern.BytealgIndexByte.indexByte := ⟨Go.Proofs.Tryd.f102, Go.Proofs.Tryd.func102, by kernel_rfl, by kernel_rfl, by kernel_rfl, by kernel_rfl⟩
noncomputable abbrev rhoS : Env := envAp Go.Proofs.Tryd.prog []
theorem oneS : OneSym rhoS := oneAp
variable {B : Nat}
noncomputable def ta0 : FA := .mk none none none (some x3) none (some x5) (some x6) (some x7) (some x8) (some x9) none none none none none none
theorem oa0 : OKA Go.Proofs.Tryd.prog rhoS B 0 ta0 := okA_mk OKO.no OKO.no OKO.no (OKO.fn e3) OKO.no (OKO.fn e5) (OKO.fn e6) (OKO.fn e7) (OKO.fn e8) (OKO.fn e9) OKO.no OKO.no OKO.no OKO.no OKO.no OKO.no
noncomputable def ta1 : FA := .mk none none none none (some x20) none none none none none none none none none none none
theorem oa1 : OKA Go.Proofs.Tryd.prog rhoS B 16 ta1 := okA_mk OKO.no OKO.no OKO.no OKO.no (OKO.fn e20) OKO.no OKO.no OKO.no OKO.no OKO.no OKO.no OKO.no OKO.no OKO.no OKO.no OKO.no
noncomputable def ta2 : FA := .mk none (some x33) (some x34) (some x35) none none none none none none none none none none none none
theorem oa2 : OKA Go.Proofs.Tryd.prog rhoS B 32 ta2 := okA_mk OKO.no (OKO.fn e33) (OKO.fn e34) (OKO.fn e35) OKO.no OKO.no OKO.no OKO.no OKO.no OKO.no OKO.no OKO.no OKO.no OKO.no OKO.no OKO.no
noncomputable def ta3 : FA := .mk none none none (some x51) (some x52) (some x53) (some x54) (some x55) (some x56) none none none none none none none
theorem oa3 : OKA Go.Proofs.Tryd.prog rhoS B 48 ta3 := okA_mk OKO.no OKO.no OKO.no (OKO.fn e51) (OKO.fn e52) (OKO.fn e53) (OKO.fn e54) (OKO.fn e55) (OKO.fn e56) OKO.no OKO.no OKO.no OKO.no OKO.no OKO.no OKO.no
noncomputable def ta4 : FA := .mk (some x64) (some x65) (some x66) (some x67) (some x68) (some x69) (some x70) (some x71) none none none none none none none (some x79)
theorem oa4 : OKA Go.Proofs.Tryd.prog rhoS B 64 ta4 := okA_mk (OKO.fn e64) (OKO.fn e65) (OKO.fn e66) (OKO.fn e67) (OKO.fn e68) (OKO.fn e69) (OKO.fn e70) (OKO.fn e71) OKO.no OKO.no OKO.no OKO.no OKO.no OKO.no OKO.no (OKO.fn e79)
noncomputable def ta5 : FA := .mk (some x80) (some x81) (some x82) (some x83) (some x84) none none none none none (some x90) (some x91) (some x92) (some x93) (some x94) (some x95)
theorem oa5 : OKA Go.Proofs.Tryd.prog rhoS B 80 ta5 := okA_mk (OKO.fn e80) (OKO.fn e81) (OKO.fn e82) (OKO.fn e83) (OKO.fn e84) OKO.no OKO.no OKO.no OKO.no OKO.no (OKO.fn e90) (OKO.fn e91) (OKO.fn e92) (OKO.fn e93) (OKO.fn e94) (OKO.fn e95)
noncomputable def ta6 : FA := .mk none none none (some x99) (some x100) (some (.prim pCountString)) (some (.prim pIndexByteString)) (some (.prim (noFn "function 103"))) (some x104) (some x105) none none none none none none
theorem oa6 : OKA Go.Proofs.Tryd.prog rhoS B 96 ta6 := okA_mk OKO.no OKO.no OKO.no (OKO.fn e99) (OKO.fn e100) (OKO.pr (countString_ok bare101)) (OKO.pr (indexByteString_ok bare102)) (OKO.noP _) (OKO.fn e104) (OKO.fn e105) OKO.no OKO.no OKO.no OKO.no OKO.no OKO.no
noncomputable def ta7 : FA := .mk none none none none (some x116) (some x117) none none none none none none none none none none
theorem oa7 : OKA Go.Proofs.Tryd.prog rhoS B 112 ta7 := okA_mk OKO.no OKO.no OKO.no OKO.no (OKO.fn e116) (OKO.fn e117) OKO.no OKO.no OKO.no OKO.no OKO.no OKO.no OKO.no OKO.no OKO.no OKO.no
noncomputable def tb0 : FB := .mk ta0 ta1 ta2 ta3 ta4 ta5 ta6 ta7 noA noA noA noA noA noA noA noA
theorem ob0 : OKB Go.Proofs.Tryd.prog rhoS B 0 tb0 := okB_mk oa0 oa1 oa2 oa3 oa4 oa5 oa6 oa7 okA_no okA_no okA_no okA_no okA_no okA_no okA_no okA_no
noncomputable def tab : FC := .mk tb0 noB noB noB noB noB noB noB noB noB noB noB noB noB noB noB
theorem tab_ok (B : Nat) : TabOK Go.Proofs.Tryd.prog rhoS B tab := .mk (okC_mk ob0 okB_no okB_no okB_no okB_no okB_no okB_no okB_no okB_no okB_no okB_no okB_no okB_no okB_no okB_no) ha_nil
end Go.Ev.YtdeehihoficcfaaDoor
