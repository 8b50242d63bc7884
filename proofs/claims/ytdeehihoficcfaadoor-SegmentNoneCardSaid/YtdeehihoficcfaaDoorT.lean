/- The table of the functions. -/
import Derived.Test.YtdeehihoficcfaaDoorF0
import Derived.Test.YtdeehihoficcfaaDoorF1
import Derived.KernelRfl
namespace Go.Ev.YtdeehihoficcfaaDoor
open Go Go.Ev
set_option linter.unusedVariables false
set_option maxRecDepth 100000

theorem bare58 : Bare Go.Proofs.Tryd.prog 58 Extern.MapsClone.clone := ⟨Go.Proofs.Tryd.f58, Go.Proofs.Tryd.func58, by kernel_rfl, by kernel_rfl, by kernel_rfl, by kernel_rfl⟩
theorem bare101 : Bare Go.Proofs.Tryd.prog 101 Extern.BytealgCount.count := ⟨Go.Proofs.Tryd.f101, Go.Proofs.Tryd.func101, by kernel_rfl, by kernel_rfl, by kernel_rfl, by kernel_rfl⟩
theorem bare102 : Bare Go.Proofs.Tryd.prog 102 Extern.BytealgIndexByte.indexByte := ⟨Go.Proofs.Tryd.f102, Go.Proofs.Tryd.func102, by kernel_rfl, by kernel_rfl, by kernel_rfl, by kernel_rfl⟩
noncomputable abbrev rhoS : Env := envAp Go.Proofs.Tryd.prog [96]
theorem oneS : OneSym rhoS := oneAp
variable {B : Nat}
noncomputable def ta0 : FA := .mk none none none none (some x4) none none none none none (some x10) (some x11) (some x12) (some x13) (some x14) (some x15)
theorem oa0 : OKA Go.Proofs.Tryd.prog rhoS B 0 ta0 := okA_mk OKO.no OKO.no OKO.no OKO.no (OKO.fn e4) OKO.no OKO.no OKO.no OKO.no OKO.no (OKO.fn e10) (OKO.fn e11) (OKO.fn e12) (OKO.fn e13) (OKO.fn e14) (OKO.fn e15)
noncomputable def ta1 : FA := .mk (some x16) (some x17) (some x18) (some x19) none (some x21) (some x22) (some x23) (some x24) (some x25) (some x26) (some x27) (some x28) (some x29) (some x30) (some x31)
theorem oa1 : OKA Go.Proofs.Tryd.prog rhoS B 16 ta1 := okA_mk (OKO.fn e16) (OKO.fn e17) (OKO.fn e18) (OKO.fn e19) OKO.no (OKO.fn e21) (OKO.fn e22) (OKO.fn e23) (OKO.fn e24) (OKO.fn e25) (OKO.fn e26) (OKO.fn e27) (OKO.fn e28) (OKO.fn e29) (OKO.fn e30) (OKO.fn e31)
noncomputable def ta2 : FA := .mk (some x32) none none none (some x36) (some x37) (some x38) (some (.prim pClone)) (some x40) (some x41) (some x42) (some x43) (some x44) (some x45) (some x46) (some x47)
theorem oa2 : OKA Go.Proofs.Tryd.prog rhoS B 32 ta2 := okA_mk (OKO.fn e32) OKO.no OKO.no OKO.no (OKO.fn e36) (OKO.fn e37) (OKO.fn e38) (OKO.pr (clone_ok (g := 58) (by kernel_rfl) bare58)) (OKO.fn e40) (OKO.fn e41) (OKO.fn e42) (OKO.fn e43) (OKO.fn e44) (OKO.fn e45) (OKO.fn e46) (OKO.fn e47)
noncomputable def ta3 : FA := .mk (some x48) (some x49) (some x50) none none none none none none (some x57) none (some x59) (some x60) (some x61) (some (.prim (noFn "function 62"))) (some x63)
theorem oa3 : OKA Go.Proofs.Tryd.prog rhoS B 48 ta3 := okA_mk (OKO.fn e48) (OKO.fn e49) (OKO.fn e50) OKO.no OKO.no OKO.no OKO.no OKO.no OKO.no (OKO.fn e57) OKO.no (OKO.fn e59) (OKO.fn e60) (OKO.fn e61) (OKO.noP _) (OKO.fn e63)
noncomputable def ta4 : FA := .mk none none none none none none none none (some (x72.toBr 400)) (some x73) (some x74) (some x75) (some x76) (some x77) (some x78) none
theorem oa4 : OKA Go.Proofs.Tryd.prog rhoS B 64 ta4 := okA_mk OKO.no OKO.no OKO.no OKO.no OKO.no OKO.no OKO.no OKO.no (OKO.brX e72 ⟨_, _, _, rfl⟩) (OKO.fn e73) (OKO.fn e74) (OKO.fn e75) (OKO.fn e76) (OKO.fn e77) (OKO.fn e78) OKO.no
noncomputable def ta5 : FA := .mk none none none none none (some x85) (some x86) (some x87) (some x88) (some x89) none none none none none none
theorem oa5 : OKA Go.Proofs.Tryd.prog rhoS B 80 ta5 := okA_mk OKO.no OKO.no OKO.no OKO.no OKO.no (OKO.fn e85) (OKO.fn e86) (OKO.fn e87) (OKO.fn e88) (OKO.fn e89) OKO.no OKO.no OKO.no OKO.no OKO.no OKO.no
noncomputable def ta6 : FA := .mk (some x96) (some x97) (some x98) none none none none none none none (some x106) (some (.prim (noFn "function 107"))) (some (.prim (noFn "function 108"))) (some (.prim (noFn "function 109"))) (some (.prim (noFn "function 110"))) (some (.prim (noFn "function 111")))
theorem oa6 : OKA Go.Proofs.Tryd.prog rhoS B 96 ta6 := okA_mk (OKO.apE e96) (OKO.fn e97) (OKO.fn e98) OKO.no OKO.no OKO.no OKO.no OKO.no OKO.no OKO.no (OKO.fn e106) (OKO.noP _) (OKO.noP _) (OKO.noP _) (OKO.noP _) (OKO.noP _)
noncomputable def ta7 : FA := .mk (some x112) (some (.prim (noFn "function 113"))) (some (.prim (noFn "function 114"))) (some x115) none none none none none none none (some x123) none none none none
theorem oa7 : OKA Go.Proofs.Tryd.prog rhoS B 112 ta7 := okA_mk (OKO.fn e112) (OKO.noP _) (OKO.noP _) (OKO.fn e115) OKO.no OKO.no OKO.no OKO.no OKO.no OKO.no OKO.no (OKO.fn e123) OKO.no OKO.no OKO.no OKO.no
noncomputable def tb0 : FB := .mk ta0 ta1 ta2 ta3 ta4 ta5 ta6 ta7 noA noA noA noA noA noA noA noA
theorem ob0 : OKB Go.Proofs.Tryd.prog rhoS B 0 tb0 := okB_mk oa0 oa1 oa2 oa3 oa4 oa5 oa6 oa7 okA_no okA_no okA_no okA_no okA_no okA_no okA_no okA_no
noncomputable def tab : FC := .mk tb0 noB noB noB noB noB noB noB noB noB noB noB noB noB noB noB
theorem tab_ok (B : Nat) : TabOK Go.Proofs.Tryd.prog rhoS B tab := .mk (okC_mk ob0 okB_no okB_no okB_no okB_no okB_no okB_no okB_no okB_no okB_no okB_no okB_no okB_no okB_no okB_no) (ha_cons ⟨x96, by kernel_rfl, e96⟩ ha_nil)
end Go.Ev.YtdeehihoficcfaaDoor
