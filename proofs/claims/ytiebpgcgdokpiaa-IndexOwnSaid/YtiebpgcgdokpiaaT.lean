/- The table of the functions. -/
import Derived.Test.YtiebpgcgdokpiaaF0
import Derived.KernelRfl
namespace Go.Ev.Ytiebpgcgdokpiaa
open Go Go.Ev
set_option linter.unusedVariables false
set_option maxRecDepth 100000

noncomputable abbrev rhoS (v : Nat → Value) (gl : GlF) : Env := envAr Go.Proofs.Try.prog [] v gl
theorem oneS {v : Nat → Value} {gl : GlF} (h : ∀ i, (v i).oneCell' = true) : OneSym (rhoS v gl) := oneAr h
variable {B : Nat}
noncomputable def ta0 : FA := .mk none none none (some x3) (some x4) (some x5) (some x6) (some x7) (some x8) (some x9) (some (x10.toBr 400)) (some x11) (some x12) (some x13) (some x14) (some x15)
theorem oa0 {v : Nat → Value} {gl : GlF} : OKA PP (rhoS v gl) B 0 ta0 := okA_mk OKO.no OKO.no OKO.no (OKO.fn e3) (OKO.fn e4) (OKO.fn e5) (OKO.fn e6) (OKO.fn e7) (OKO.fn e8) (OKO.fn e9) (OKO.brX e10 ⟨_, _, _, rfl⟩) (OKO.fn e11) (OKO.fn e12) (OKO.fn e13) (OKO.fn e14) (OKO.fn e15)
noncomputable def ta1 : FA := .mk (some x16) (some x17) (some x18) (some x19) (some (.prim (noFn "function 20"))) (some (.prim (noFn "function 21"))) (some (.prim (noFn "function 22"))) (some (.prim (noFn "function 23"))) (some (.prim (noFn "function 24"))) (some x25) (some (.prim (noFn "function 26"))) (some (.prim (noFn "function 27"))) (some x28) (some x29) none none
theorem oa1 {v : Nat → Value} {gl : GlF} : OKA PP (rhoS v gl) B 16 ta1 := okA_mk (OKO.fn e16) (OKO.fn e17) (OKO.fn e18) (OKO.fn e19) (OKO.noP _) (OKO.noP _) (OKO.noP _) (OKO.noP _) (OKO.noP _) (OKO.fn e25) (OKO.noP _) (OKO.noP _) (OKO.fn e28) (OKO.fn e29) OKO.no OKO.no
noncomputable def ta2 : FA := .mk none none none (some x35) none none none none none none none none none none none none
theorem oa2 {v : Nat → Value} {gl : GlF} : OKA PP (rhoS v gl) B 32 ta2 := okA_mk OKO.no OKO.no OKO.no (OKO.fn e35) OKO.no OKO.no OKO.no OKO.no OKO.no OKO.no OKO.no OKO.no OKO.no OKO.no OKO.no OKO.no
noncomputable def tb0 : FB := .mk ta0 ta1 ta2 noA noA noA noA noA noA noA noA noA noA noA noA noA
theorem ob0 {v : Nat → Value} {gl : GlF} : OKB PP (rhoS v gl) B 0 tb0 := okB_mk (oa0) (oa1) (oa2) okA_no okA_no okA_no okA_no okA_no okA_no okA_no okA_no okA_no okA_no okA_no okA_no okA_no
noncomputable def tab : FC := .mk tb0 noB noB noB noB noB noB noB noB noB noB noB noB noB noB noB
theorem tab_ok {v : Nat → Value} {gl : GlF} (B : Nat) : TabOK Go.Proofs.Try.prog (rhoS v gl) B tab := .mkA (okC_mk (ob0) okB_no okB_no okB_no okB_no okB_no okB_no okB_no okB_no okB_no okB_no okB_no okB_no okB_no okB_no) ha_nil
end Go.Ev.Ytiebpgcgdokpiaa
