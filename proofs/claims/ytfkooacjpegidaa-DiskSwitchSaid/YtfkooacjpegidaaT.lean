/- The table of the functions. -/
import Derived.Test.YtfkooacjpegidaaF0
import Derived.KernelRfl
namespace Go.Ev.Ytfkooacjpegidaa
open Go Go.Ev
set_option linter.unusedVariables false
set_option maxRecDepth 100000

theorem bare40 : Bare Go.Proofs.Try.prog 40 Extern.MapsClone.clone := ⟨Go.Proofs.Try.f40, Go.Proofs.Try.func40, by kernel_rfl, by kernel_rfl, by kernel_rfl, by kernel_rfl⟩
theorem bare109 : Bare Go.Proofs.Try.prog 109 Extern.BytealgIndexByte.indexByte := ⟨Go.Proofs.Try.f109, Go.Proofs.Try.func109, by kernel_rfl, by kernel_rfl, by kernel_rfl, by kernel_rfl⟩
noncomputable abbrev rhoS : Env := envAp Go.Proofs.Try.prog [57, 60]
theorem oneS : OneSym rhoS := oneAp
variable {B : Nat}
noncomputable def ta0 : FA := .mk none none none (some x3) none (some x5) (some x6) (some x7) (some x8) (some x9) (some x10) (some x11) (some x12) (some x13) none none
theorem oa0 : OKA Go.Proofs.Try.prog rhoS B 0 ta0 := okA_mk OKO.no OKO.no OKO.no (OKO.fn e3) OKO.no (OKO.fn e5) (OKO.fn e6) (OKO.fn e7) (OKO.fn e8) (OKO.fn e9) (OKO.fn e10) (OKO.fn e11) (OKO.fn e12) (OKO.fn e13) OKO.no OKO.no
noncomputable def ta1 : FA := .mk none none none (some x19) (some x20) (some x21) (some x22) (some x23) (some x24) (some x25) (some x26) (some x27) (some (.prim pClone)) (some x29) (some (x30.toBr 400)) (some x31)
theorem oa1 : OKA Go.Proofs.Try.prog rhoS B 16 ta1 := okA_mk OKO.no OKO.no OKO.no (OKO.fn e19) (OKO.fn e20) (OKO.fn e21) (OKO.fn e22) (OKO.fn e23) (OKO.fn e24) (OKO.fn e25) (OKO.fn e26) (OKO.fn e27) (OKO.pr (clone_ok (g := 40) (by kernel_rfl) bare40)) (OKO.fn e29) (OKO.brX e30 ⟨_, _, _, rfl⟩) (OKO.fn e31)
noncomputable def ta2 : FA := .mk (some (x32.toBr 400)) (some x33) (some x34) none none none none (some x39) none (some x41) (some x42) (some x43) (some x44) (some x45) (some x46) none
theorem oa2 : OKA Go.Proofs.Try.prog rhoS B 32 ta2 := okA_mk (OKO.brX e32 ⟨_, _, _, rfl⟩) (OKO.fn e33) (OKO.fn e34) OKO.no OKO.no OKO.no OKO.no (OKO.fn e39) OKO.no (OKO.fn e41) (OKO.fn e42) (OKO.fn e43) (OKO.fn e44) (OKO.fn e45) (OKO.fn e46) OKO.no
noncomputable def ta3 : FA := .mk none none none none none none none none none (some x57) (some x58) (some x59) (some x60) (some x61) none none
theorem oa3 : OKA Go.Proofs.Try.prog rhoS B 48 ta3 := okA_mk OKO.no OKO.no OKO.no OKO.no OKO.no OKO.no OKO.no OKO.no OKO.no (OKO.apE e57) (OKO.fn e58) (OKO.fn e59) (OKO.apE e60) (OKO.fn e61) OKO.no OKO.no
noncomputable def ta4 : FA := .mk none none none none (some x68) (some (.prim (noFn "function 69"))) (some (.prim (noFn "function 70"))) (some (.prim (noFn "function 71"))) (some (.prim (noFn "function 72"))) (some (.prim (noFn "function 73"))) (some x74) (some (.prim (noFn "function 75"))) (some (.prim (noFn "function 76"))) (some x77) (some x78) (some x79)
theorem oa4 : OKA Go.Proofs.Try.prog rhoS B 64 ta4 := okA_mk OKO.no OKO.no OKO.no OKO.no (OKO.fn e68) (OKO.noP _) (OKO.noP _) (OKO.noP _) (OKO.noP _) (OKO.noP _) (OKO.fn e74) (OKO.noP _) (OKO.noP _) (OKO.fn e77) (OKO.fn e78) (OKO.fn e79)
noncomputable def ta5 : FA := .mk (some (.prim (noFn "function 80"))) (some (.prim (noFn "function 81"))) (some (.prim (noFn "function 82"))) (some (.prim (noFn "function 83"))) (some (.prim (noFn "function 84"))) (some x85) (some (.prim (noFn "function 86"))) (some (.prim (noFn "function 87"))) none none none none none none none none
theorem oa5 : OKA Go.Proofs.Try.prog rhoS B 80 ta5 := okA_mk (OKO.noP _) (OKO.noP _) (OKO.noP _) (OKO.noP _) (OKO.noP _) (OKO.fn e85) (OKO.noP _) (OKO.noP _) OKO.no OKO.no OKO.no OKO.no OKO.no OKO.no OKO.no OKO.no
noncomputable def ta6 : FA := .mk none (some x97) none none none (some x101) none none none none none none none none none none
theorem oa6 : OKA Go.Proofs.Try.prog rhoS B 96 ta6 := okA_mk OKO.no (OKO.fn e97) OKO.no OKO.no OKO.no (OKO.fn e101) OKO.no OKO.no OKO.no OKO.no OKO.no OKO.no OKO.no OKO.no OKO.no OKO.no
noncomputable def tb0 : FB := .mk ta0 ta1 ta2 ta3 ta4 ta5 ta6 noA noA noA noA noA noA noA noA noA
theorem ob0 : OKB Go.Proofs.Try.prog rhoS B 0 tb0 := okB_mk (oa0) (oa1) (oa2) (oa3) (oa4) (oa5) (oa6) okA_no okA_no okA_no okA_no okA_no okA_no okA_no okA_no okA_no
noncomputable def tab : FC := .mk tb0 noB noB noB noB noB noB noB noB noB noB noB noB noB noB noB
theorem tab_ok (B : Nat) : TabOK Go.Proofs.Try.prog rhoS B tab := .mk (okC_mk (ob0) okB_no okB_no okB_no okB_no okB_no okB_no okB_no okB_no okB_no okB_no okB_no okB_no okB_no okB_no) (ha_cons ⟨x57, by kernel_rfl, e57⟩ (ha_cons ⟨x60, by kernel_rfl, e60⟩ ha_nil))
end Go.Ev.Ytfkooacjpegidaa
