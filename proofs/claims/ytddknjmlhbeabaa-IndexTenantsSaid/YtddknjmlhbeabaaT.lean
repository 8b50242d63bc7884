/- The table of the functions, once more: some are told. -/
import Derived.Test.YtddknjmlhbeabaaZ
import Derived.KernelRfl
namespace Go.Ev.Ytddknjmlhbeabaa
open Go Go.Ev
set_option linter.unusedVariables false
set_option maxRecDepth 100000

theorem mixedS : Go.Proofs.Try.prog.follows .mixedOrders = true := by kernel_rfl
variable {B : Nat}
noncomputable def ta0 : FA := .mk none none none none none (some x5) none none none none none none none none none (some x15)
theorem oa0 : OKA PP rhoS B 0 ta0 := okA_mk OKO.no OKO.no OKO.no OKO.no OKO.no (OKO.fn e5) OKO.no OKO.no OKO.no OKO.no OKO.no OKO.no OKO.no OKO.no OKO.no (OKO.fn e15)
noncomputable def ta1 : FA := .mk (some x16) (some x17) (some x18) (some (.prim pKeys)) (some x20) (some x21) (some x22) none none none none none (some x28) (some x29) (some x30) (some x31)
theorem oa1 : OKA PP rhoS B 16 ta1 := okA_mk (OKO.fn e16) (OKO.fn e17) (OKO.fn e18) (OKO.pr (keys_ok oneS mixedS (Z.tab_ok B) (f := 19) (ks := fnKey 32) (by kernel_rfl) (by kernel_rfl))) (OKO.fn e20) (OKO.fn e21) (OKO.fn e22) OKO.no OKO.no OKO.no OKO.no OKO.no (OKO.fn e28) (OKO.fn e29) (OKO.fn e30) (OKO.fn e31)
noncomputable def ta2 : FA := .mk (some (.prim pSortS)) (some x33) (some (.prim (pDelF 35))) (some x35) none none none (some x39) none none none none none none none none
theorem oa2 : OKA PP rhoS B 32 ta2 := okA_mk (OKO.pr (@sortS_ok Go.Proofs.Try.prog rhoS B 32 Go.Proofs.Try.f32 Go.Proofs.Try.func32 (by kernel_rfl) (by kernel_rfl) sort32)) (OKO.fn e33) (OKO.pr (delF_ok oneS mixedS (Z.tab_ok B) (f := 34) (g := 35) (by kernel_rfl) (by kernel_rfl))) (OKO.fn e35) OKO.no OKO.no OKO.no (OKO.fn e39) OKO.no OKO.no OKO.no OKO.no OKO.no OKO.no OKO.no OKO.no
noncomputable def tb0 : FB := .mk ta0 ta1 ta2 noA noA noA noA noA noA noA noA noA noA noA noA noA
theorem ob0 : OKB PP rhoS B 0 tb0 := okB_mk (oa0) (oa1) (oa2) okA_no okA_no okA_no okA_no okA_no okA_no okA_no okA_no okA_no okA_no okA_no okA_no okA_no
noncomputable def tab : FC := .mk tb0 noB noB noB noB noB noB noB noB noB noB noB noB noB noB noB
theorem tab_ok (B : Nat) : TabOK Go.Proofs.Try.prog rhoS B tab := .mk (okC_mk (ob0) okB_no okB_no okB_no okB_no okB_no okB_no okB_no okB_no okB_no okB_no okB_no okB_no okB_no okB_no) ha_nil
end Go.Ev.Ytddknjmlhbeabaa
