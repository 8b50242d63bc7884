/- The table of the functions. -/
import Derived.Test.YtbckflbaabhpfaaDoorF0
import Derived.KernelRfl
namespace Go.Ev.YtbckflbaabhpfaaDoor
open Go Go.Ev
set_option linter.unusedVariables false
set_option maxRecDepth 100000

theorem bare74 : Bare Go.Proofs.Tryd.prog 74 Extern.BytealgCount.count := ⟨Go.Proofs.Tryd.f74, Go.Proofs.Tryd.func74, by kernel_rfl, by kernel_rfl, by kernel_rfl, by kernel_rfl⟩
theorem bare75 : Bare Go.Proofs.Tryd.prog 75 Extern.BytealgIndexByte.indexByte := ⟨Go.Proofs.Tryd.f75, Go.Proofs.Tryd.func75, by kernel_rfl, by kernel_rfl, by kernel_rfl, by kernel_rfl⟩
noncomputable abbrev rhoS : Env := envAp Go.Proofs.Tryd.prog []
theorem oneS : OneSym rhoS := oneAp
variable {B : Nat}
noncomputable def ta0 : FA := .mk none none none none none none (some x6) none none none none (some x11) none none none none
theorem oa0 : OKA PP rhoS B 0 ta0 := okA_mk OKO.no OKO.no OKO.no OKO.no OKO.no OKO.no (OKO.fn e6) OKO.no OKO.no OKO.no OKO.no (OKO.fn e11) OKO.no OKO.no OKO.no OKO.no
noncomputable def ta1 : FA := .mk none (some x17) none none (some x20) none none none none none (some x26) (some x27) none none none none
theorem oa1 : OKA PP rhoS B 16 ta1 := okA_mk OKO.no (OKO.fn e17) OKO.no OKO.no (OKO.fn e20) OKO.no OKO.no OKO.no OKO.no OKO.no (OKO.fn e26) (OKO.fn e27) OKO.no OKO.no OKO.no OKO.no
noncomputable def ta2 : FA := .mk none none none none (some x36) (some x37) (some x38) (some x39) (some x40) (some x41) none none none none none none
theorem oa2 : OKA PP rhoS B 32 ta2 := okA_mk OKO.no OKO.no OKO.no OKO.no (OKO.fn e36) (OKO.fn e37) (OKO.fn e38) (OKO.fn e39) (OKO.fn e40) (OKO.fn e41) OKO.no OKO.no OKO.no OKO.no OKO.no OKO.no
noncomputable def ta3 : FA := .mk none none none (some x51) (some x52) (some x53) (some x54) (some x55) none none none none none none none none
theorem oa3 : OKA PP rhoS B 48 ta3 := okA_mk OKO.no OKO.no OKO.no (OKO.fn e51) (OKO.fn e52) (OKO.fn e53) (OKO.fn e54) (OKO.fn e55) OKO.no OKO.no OKO.no OKO.no OKO.no OKO.no OKO.no OKO.no
noncomputable def ta4 : FA := .mk none (some x65) (some x66) (some x67) (some x68) (some x69) none none (some x72) (some x73) (some (.prim pCountString)) (some (.prim pIndexByteString)) (some (.prim (noFn "function 76"))) (some x77) (some x78) (some x79)
theorem oa4 : OKA PP rhoS B 64 ta4 := okA_mk OKO.no (OKO.fn e65) (OKO.fn e66) (OKO.fn e67) (OKO.fn e68) (OKO.fn e69) OKO.no OKO.no (OKO.fn e72) (OKO.fn e73) (OKO.pr (@countString_ok Go.Proofs.Tryd.prog rhoS B 74 bare74)) (OKO.pr (@indexByteString_ok Go.Proofs.Tryd.prog rhoS B 75 bare75)) (OKO.noP _) (OKO.fn e77) (OKO.fn e78) (OKO.fn e79)
noncomputable def ta5 : FA := .mk (some x80) none none none none none none none none none none none none none none none
theorem oa5 : OKA PP rhoS B 80 ta5 := okA_mk (OKO.fn e80) OKO.no OKO.no OKO.no OKO.no OKO.no OKO.no OKO.no OKO.no OKO.no OKO.no OKO.no OKO.no OKO.no OKO.no OKO.no
noncomputable def tb0 : FB := .mk ta0 ta1 ta2 ta3 ta4 ta5 noA noA noA noA noA noA noA noA noA noA
theorem ob0 : OKB PP rhoS B 0 tb0 := okB_mk (oa0) (oa1) (oa2) (oa3) (oa4) (oa5) okA_no okA_no okA_no okA_no okA_no okA_no okA_no okA_no okA_no okA_no
noncomputable def tab : FC := .mk tb0 noB noB noB noB noB noB noB noB noB noB noB noB noB noB noB
theorem tab_ok (B : Nat) : TabOK Go.Proofs.Tryd.prog rhoS B tab := .mk (okC_mk (ob0) okB_no okB_no okB_no okB_no okB_no okB_no okB_no okB_no okB_no okB_no okB_no okB_no okB_no okB_no) ha_nil
end Go.Ev.YtbckflbaabhpfaaDoor
